/- Part 2. -/
import Derived.Orders
import Derived.Test.YtgjljlpdfceilaaGreatDoorQAA
open BitVec renaming ofInt->FV
open Bool renaming false->A3,true->U
open Classical renaming choose->Nt,choose_spec->J9
open Decidable renaming decide->A1
open Go.Region renaming binds->G4
open List renaming replicate->BV
open Nat renaming beq->Al,ble->E9,blt->Ib,land->Ph,lor->BQ,min->FI
open Option renaming none->A0,some->I
open UInt8 renaming ofNat->Kh
set_option linter.all false
noncomputable section
namespace Go.VS
open Go
def upd{α:Type}(f:Nat->α)(i:Nat)(v:α):Nat->α:=λj=>match Al j i with
 | true=>v
 | false=>f j
structure S where
 n:Nat
 T:Nat->AV
 H:Hp
 nid:Nat
 st:List (Nat->AV)
 pins:List Nat
 gs:Nat->Bool
def cn:Value->Bool
 | .agg _=>A3
 | .tuple _=>A3
 | _=>U
def ofV:Value->AV
 | .agg cs=>match cs.toList.all cn with
  | true=> .agg (cs.toList.map .lit)
  | false=> .un
 | v=> .lit v
def S.ev(s:S):Operand->AV
 | .tmp t=>s.T t
 | .const v=>ofV v
 | _=> .un
def S.put(s:S)(d:Option Nat)(v:AV):S:=match d with
 | none=>s
 | some t=>{ s with T:=upd s.T t v }
def S.has(s:S)(d:Option Nat):Bool:=match d with
 | none=>U
 | some t=>Ib t s.n&& !(s.pins.any λp=>Al p t)&& !(s.gs t)
def F4(H:Hp)(b:Nat):List Ob->Hp
 | []=>H
 | o::os=>F4 (upd H b<|I o) (b+1) os
def GH(f:AV->AV):AV->AV
 | .agg cs=> .agg (cs.map f)
 | v=>f v
def Ga(f:AV->AV):AV->AV
 | .tup vs=> .tup (vs.map<|GH f)
 | v=>GH f v
def FD(f:AV->AV):AV->AV
 | .gd g w v=> .gd g w (Ga f v)
 | v=>Ga f v
def CR(f:AV->AV):Option Ob->Option Ob
 | some (.box e cs)=>I (.box e<|cs.map f)
 | o=>o
def S.map(s:S)(f:AV->AV):S:=
 { s with T:=λt=>FD f<|s.T t,H:=λj=>CR f<|s.H j,st:=s.st.map λT t=>FD f (T t) }
def S.ET(s:S)(id:Nat)(o:Option Ob):S:={ s with H:=upd s.H id o }
def kl1(id:Nat):AV->AV
 | .own j=>match Al j id with
  | true=> .un
  | false=> .own j
 | .ptr j z i o=>match Al j id with
  | true=> .un
  | false=> .ptr j z i o
 | v=>v
def fz1(id:Nat)(k:K)(xs:List (Tof k)):AV->AV
 | .own j=>match Al j id with
  | true=> .sl k xs
  | false=> .own j
 | .ptr j z i o=>match Al j id with
  | true=> .un
  | false=> .ptr j z i o
 | v=>v
def S.kill(s:S)(id:Nat):S:=(s.map<|kl1 id).ET id A0
def S.freeze(s:S)(id:Nat):S:=match s.H id with
 | some (.row _ _ k xs)=>(s.map<|fz1 id k xs).ET id A0
 | _=>s.kill id
def Lm(P:Program)(t:TypeId):Option Bool:=match P.underlying t with
 | some (.struct _)=>I U
 | some (.array _ _)=>I U
 | some _=>I A3
 | none=>A0
def MH(P:Program)(t:TypeId)(f:Nat):Option Field:=match P.underlying t with
 | some (.struct fs)=>fs[f]?
 | _=>A0
def Gw:AV->Option (List AV)
 | .un=>A0
 | .gd _ _ _=>A0
 | .lit (.tuple _)=>A0
 | .lit (.agg _)=>A0
 | .tup _=>A0
 | .arr _ _=>A0
 | .agg cs=>I cs
 | v=>I [v]
def Hr(P:Program)(t:TypeId):Option (List AV):=(P.info? t).bind λi=>i.zero.bind λz=>match z.cells.toList.all cn with
 | true=>I (z.cells.toList.map .lit)
 | false=>A0
def cg:AV->AV->Bool
 | .lit (.int k n),.lit (.int k' m)=>A1 (k=k')&&A1 (n=m)
 | .lit (.bool a),.lit (.bool b)=>a == b
 | .lit (.string a),.lit (.string b)=>Al a.size 0&&Al b.size 0
 | .lit (.slice A0 0 0),.sl _ []=>U
 | _,_=>A3
def Mx:List AV->List AV->Bool
 | [],[]=>U
 | a::l,b::m=>cg a b&&Mx l m
 | _,_=>A3
def zok(P:Program)(t:TypeId)(k:K):Bool:=match Hr P t with
 | some zs=>Mx zs (enc k<|dfl k)
 | none=>A3
def Iq(P:Program)(t:TypeId):Option TypeId:=match P.underlying t with
 | some (.slice e)=>I e
 | _=>A0
def inb(i:Int)(n:Nat):Bool:=A1 (0<=i)&&A1 (i<(n:Int))
def bt(s:A4)(i:Int):Int:=((s.data.toList.getD i.toNat 0).toNat:Int)
def rd{α:Type}(d:α)(xs:List α)(i:Int):α:=xs.getD i.toNat d
def BF(s:A4):List Int:=s.data.toList.map λb=>(b.toNat:Int)
def BK(xs:List Int):A4:=⟨(xs.map λn=>Kh n.toNat).toArray⟩
def E4(k:IntKind)(a b:Int):Int:=k.wrap ((FV k.bits a ^^^ FV k.bits b).toNat:Int)
def abQ(k:IntKind)(a b:Int):Int:=k.wrap ((FV k.bits a &&& FV k.bits b).toNat:Int)
def ior(k:IntKind)(a b:Int):Int:=k.wrap ((FV k.bits a ||| FV k.bits b).toNat:Int)
def w64(n:Int):Int:=IntKind.i64.wrap n
def w8(n:Int):Int:=IntKind.u8.wrap n
def Af(n:Nat):Bool:=A1<|n<=4294967296
abbrev PR:=Option<|Bool×AV×List Ob
def okA(v:AV):PR:=I (U,v,[])
def okN:AV->PR
 | .gd _ _ _=>A0
 | v=>okA v
def HV(P:Program)(t:TypeId)(cs:List AV)(o:Nat):Option AV:=match Lm P t with
 | some U=>match E9 (o+P.cellsOf t) cs.length&&E9 1 (P.cellsOf t) with
  | true=>I (.agg<|(cs.drop o).take<|P.cellsOf t)
  | false=>A0
 | some A3=>cs[o]?
 | none=>A0
def KO(P:Program)(H:Hp)(t:TypeId):AV->Option AV
 | .ipt k x o=>HV P t (enc k x) o
 | .ptr id z i o=>match H id with
  | some (.box _ cs)=>match i with
   | 0=>HV P t cs o
   | _=>A0
  | some (.row _ _ k xs)=>match Al z (ks k) with
   | true=>HV P t (enc k<|xs.getD i<|dfl k) o
   | false=>A0
  | some (.arr e k xs)=>match P.underlying t with
   | some (.array _ _)=>match Al e t&&E9 1 (P.cellsOf t),i,o with
    | true,0,0=>I (.arr k xs)
    | _,_,_=>A0
   | _=>match Al z (ks k) with
    | true=>HV P t (enc k<|xs.getD i<|dfl k) o
    | false=>A0
  | none=>A0
 | _=>A0
def VV(op:BinOp)(k:IntKind)(a b:Int):PR:=match op with
 | .add=>okA (.lit<|.int k<|k.wrap<|a+b)
 | .sub=>okA (.lit<|.int k<|k.wrap<|a - b)
 | .mul=>okA (.lit<|.int k<|k.wrap<|a * b)
 | .quo=>I (!decide (b=0),.lit<|.int k<|k.wrap<|a.tdiv b,[])
 | .rem=>I (!decide (b=0),.lit<|.int k<|a.tmod b,[])
 | .xor=>okA (.lit<|.int k<|E4 k a b)
 | .and=>okA (.lit<|.int k<|abQ k a b)
 | .or=>okA (.lit<|.int k<|ior k a b)
 | .eql=>okA (.b<|A1<|a=b)
 | .neq=>okA (.b<|!decide (a=b))
 | .lss=>okA (.b<|A1<|a<b)
 | .leq=>okA (.b<|A1<|a<=b)
 | .gtr=>okA (.b<|A1<|b<a)
 | .geq=>okA (.b<|A1<|b<=a)
 | _=>A0
def VU(op:BinOp)(a b:A4):PR:=match op with
 | .add=>I (A1<|a.size+b.size<=4611686018427387904,.s<|a++b,[])
 | .eql=>okA (.b<|A1<|a=b)
 | .neq=>okA (.b<|!decide (a=b))
 | _=>A0
def eqC:List AV->List AV->Option Bool
 | [],[]=>I U
 | .lit (.int k a)::l,.lit (.int k' b)::m=>match A1 (k=k') with
  | true=>(eqC l m).bind λr=>I<|A1 (a=b)&&r
  | false=>A0
 | .lit (.bool a)::l,.lit (.bool b)::m=>(eqC l m).bind λr=>I<|A1 (a=b)&&r
 | .lit (.string a)::l,.lit (.string b)::m=>(eqC l m).bind λr=>I<|A1 (a=b)&&r
 | _,_=>A0
def cb(P:Program):Nat->List Field->List AV->Bool
 | _,[],_=>U
 | n,f::fs,c::cs=>(match P.underlying f.type,c with
  | some .bool,.lit (.bool _)=>U
  | some (.int _),.lit (.int _ _)=>U
  | some .string,.lit (.string _)=>U
  | _,_=>A3)&&Al f.offset n&& !(f.name == "_")&&cb P (n+1) fs cs
 | _,_,_=>A3
def rW(P:Program)(t:TypeId)(cs:List AV):Bool:=match P.underlying t with
 | some (.struct fs)=>cb P 0 fs.toList cs&&Al fs.size cs.length&& !P.stoodInHeld t&& !P.eqGuardType P.depth t
 | _=>A3
def Q3(P:Program)(op:BinOp)(t:TypeId):AV->AV->PR
 | .lit (.int k a),.lit (.int k' b)=>match A1 (k=k') with
  | true=>VV op k a b
  | false=>A0
 | .lit (.string a),.lit (.string b)=>VU op a b
 | .lit (.bool a),.lit (.bool b)=>match P.underlying t,op with
  | some .bool,.eql=>okA (.b<|A1<|a=b)
  | some .bool,.neq=>okA (.b<|!decide (a=b))
  | _,_=>A0
 | .agg a,.agg b=>match rW P t a,Al a.length b.length,eqC a b,op with
  | true,U,I r,.eql=>okA (.b r)
  | true,U,I r,.neq=>okA (.b<|!r)
  | _,_,_,_=>A0
 | _,_=>A0
def unA:UnOp->AV->PR
 | .not,.lit (.bool b)=>okA (.b<|!b)
 | .neg,.lit (.int k n)=>okA (.lit<|.int k<|k.wrap<|0 - n)
 | _,_=>A0
def Gy(g:Nat)(w:Bool):AV->AV
 | .gd g' w' v=>match Al g g',w == w' with
  | true,U=>v
  | _,_=> .gd g' w' v
 | v=>v
def RO(w:Bool)(v:AV):Operand->AV
 | .tmp g=>Gy g w v
 | _=>v
def Lc:AV->Option Bool
 | .lit (.bool b)=>I b
 | _=>A0
def Pn(ρ:Operand->AV)(c a b:Operand):PR:=match ρ c,a,b with
 | .lit (.bool q),.const (.bool U),b=>match Lc (RO A3 (ρ b) c) with
  | some y=>okA (.b<|q||y)
  | none=>match q with
   | true=>okA (.b U)
   | false=>okN (ρ b)
 | .lit (.bool q),a,.const (.bool A3)=>match Lc (RO U (ρ a) c) with
  | some x=>okA (.b<|q&&x)
  | none=>match q with
   | true=>okN (ρ a)
   | false=>okA (.b A3)
 | .lit (.bool q),a,b=>match q with
  | true=>okN (ρ a)
  | false=>okN (ρ b)
 | _,_,_=>A0
def IJ(ρ:Operand->AV):Nat->List (Nat×Operand)->Option (List AV)
 | _,[]=>I []
 | n,(i,x)::l=>match Al i n with
  | true=>(IJ ρ (n+1) l).bind λvs=>I<|ρ x::vs
  | false=>A0
def MV(k:K):List AV->Option (List<|Tof k)
 | []=>I []
 | v::l=>(Gw v).bind λcs=>(dec (λ_=>A0) k cs).bind λx=>(MV k l).bind λxs=>I<|x::xs
def HO(cs:List AV)(o:Nat)(ys:List AV):List AV:=cs.take o++ys++cs.drop (o+ys.length)
def IL(P:Program)(ρ:Operand->AV)(t:TypeId):List (Nat×Operand)->List AV->Option (List AV)
 | [],cs=>I cs
 | (i,x)::l,cs=>(MH P t i).bind λf=>(Gw<|ρ x).bind λys=>
  match Al ys.length (P.cellsOf f.type)&&E9 (f.offset+ys.length) cs.length with
  | true=>IL P ρ t l (HO cs f.offset ys)
  | false=>A0
def Ji(lo hi:Option AV)(n:Nat):Option (Bool×Int×Int):=match lo,hi with
 | none,A0=>I (U,0,n)
 | some (.lit (.int _ l)),A0=>I (A1 (0<=l)&&A1 (l<=(n:Int)),l,n)
 | none,I (.lit (.int _ h))=>I (A1 (0<=h)&&A1 (h<=(n:Int)),0,h)
 | some (.lit (.int _ l)),I (.lit (.int _ h))=>I ((A1 (0<=h)&&A1 (h<=(n:Int)))&&(A1 (0<=l)&&A1 (l<=h)),l,h)
 | _,_=>A0
def J2{α:Type}(lo hi:Option AV)(l h:Int)(xs:List α):List α:=match lo,hi with
 | none,A0=>xs
 | some _,A0=>xs.drop l.toNat
 | none,I _=>xs.take h.toNat
 | some _,I _=>(xs.take h.toNat).drop l.toNat
def JK(P:Program)(H:Hp)(t:TypeId)(v:AV):Bool:=match P.underlying t,v with
 | some .string,.lit (.string _)=>U
 | some (.slice e),.sl k _=>Al (P.cellsOf e) (ks k)
 | some (.slice e),.lit (.slice _ _ _)=>E9 1 (P.cellsOf e)
 | some (.slice e),.own id=>match H id with
  | some (.row _ _ k _)=>Al (P.cellsOf e) (ks k)
  | _=>A3
 | _,_=>A3
def RH(lo hi:Option AV):AV->PR
 | .lit (.string s)=>(Ji lo hi s.size).bind fun(c,l,h)=>I (c,.s<|s.extract l.toNat h.toNat,[])
 | .sl k xs=>(Ji lo hi xs.length).bind fun(c,l,h)=>I (c,.sl k<|J2 lo hi l h xs,[])
 | .lit (.slice A0 0 0)=>(Ji lo hi 0).bind fun(c,_,_)=>I (c,.lit<|.slice A0 0 0,[])
 | _=>A0
def J0(P:Program)(src dst:TypeId)(b:AV):PR:=match P.underlying src,P.underlying dst,b with
 | some _,I (.int k),.lit (.int _ n)=>okA (.lit<|.int k<|k.wrap n)
 | some .string,I .string,.lit (.string s)=>okA (.s s)
 | some .string,I (.slice e),.lit (.string s)=>match P.underlying e with
  | some (.int .u8)=>I (Af s.size,.own 0,[.row e U .u8 (BF s)])
  | _=>A0
 | _,_,_=>A0
def SN(P:Program)(t:TypeId)(i:Int):AV->PR
 | .lit (.string s)=>match P.underlying t with
  | some .string=>I (inb i s.size,.y<|bt s i,[])
  | _=>A0
 | .arr k xs=>match P.underlying t with
  | some (.array n e)=>match Al (ks k) 1&&Al (P.cellsOf e) 1,Lm P e with
   | true,I A3=>(HV P e (enc k<|rd (dfl k) xs i) 0).bind λv=>I (inb i xs.length&&inb i n,v,[])
   | _,_=>A0
  | _=>A0
 | _=>A0
def NU(P:Program)(H:Hp)(t:TypeId)(i:Int):AV->PR
 | .sl k xs=>match P.underlying t with
  | some (.slice e)=>match Al (P.cellsOf e) (ks k) with
   | true=>I (inb i xs.length,.ipt k (rd (dfl k) xs i) 0,[])
   | false=>A0
  | _=>A0
 | .own id=>match P.underlying t,H id with
  | some (.slice e),I (.row _ _ k xs)=>match Al (P.cellsOf e) (ks k) with
   | true=>I (inb i xs.length,.ptr id (ks k) i.toNat 0,[])
   | false=>A0
  | _,_=>A0
 | .ptr id z 0 0=>match P.underlying t,H id with
  | some (.array n e),I (.arr e' k xs)=>match Al (P.cellsOf e) (ks k)&&Al (P.cellsOf t) (n * ks k)&&Al e' t with
   | true=>I (inb i xs.length,.ptr id (ks k) i.toNat 0,[])
   | false=>A0
  | _,_=>A0
 | _=>A0
def Ja(P:Program)(ρ:Operand->AV)(H:Hp)(c:Call):PR:=match c.callee,c.args.toList,c.argTypes.toList with
 | .builtin .len,[x],[t]=>match P.underlying t,ρ x with
  | some .string,.lit (.string s)=>okA (.i s.size)
  | some (.slice _),.sl _ xs=>okA (.i xs.length)
  | some (.slice _),.lit (.slice A0 0 0)=>okA (.i 0)
  | some (.slice _),.own id=>match H id with
   | some (.row _ _ _ xs)=>okA (.i xs.length)
   | _=>A0
  | some (.array n _),_=>okA (.i n)
  | _,_=>A0
 | .builtin .min,[x,y],_=>match ρ x,ρ y with
  | .lit (.int k a),.lit (.int k' c)=>match A1 (k=k') with
   | true=>okA (.lit<|.int k<|if c<a then c else a)
   | false=>A0
  | _,_=>A0
 | .builtin .max,[x,y],_=>match ρ x,ρ y with
  | .lit (.int k a),.lit (.int k' c)=>match A1 (k=k') with
   | true=>okA (.lit<|.int k<|if a<c then c else a)
   | false=>A0
  | _,_=>A0
 | _,_,_=>A0
def CK(P:Program)(kd:TypeId->Option K)(ρ:Operand->AV)(H:Hp)(b:Nat):Op->PR
 | .move x=>okN (ρ x)
 | .assign x=>okN (ρ x)
 | .pick c x y=>Pn ρ c x y
 | .alloc t=>match P.underlying t with
  | some (.array n e)=>(kd e).bind λk=>(Hr P t).bind λzs=>match Mx zs ((BV n<|dfl k).flatMap<|enc k)&&Al (P.cellsOf t) (n * ks k)&&E9 1 n with
   | true=>I (U,.ptr b (ks k) 0 0,[.arr t k (BV n<|dfl k)])
   | false=>A0
  | _=>(Hr P t).bind λzs=>I (U,.ptr b zs.length 0 0,[.box t zs])
 | .box t x=>(Gw<|ρ x).bind λcs=>I (U,.ptr b cs.length 0 0,[.box t cs])
 | .build t ps=>(Hr P t).bind λzs=>match P.underlying t with
  | some (.struct fs)=>match fs.toList.all λf=>(P.info? f.type).isSome with
   | true=>(IL P ρ t ps.toList zs).bind λcs=>okA<|.agg cs
   | false=>A0
  | _=>A0
 | .buildSlice t len ps=>(Iq P t).bind λe=>(kd e).bind λk=>(IJ ρ 0 ps.toList).bind λvs=>(MV k vs).bind λxs=>
  match Al vs.length len&&Al (P.cellsOf e) (ks k)&&E9 len 65536&&zok P e k with
  | true=>I (U,.own b,[.row e A3 k xs])
  | false=>A0
 | .load t p=>(KO P H t<|ρ p).bind okA
 | .nilCheck p=>match ρ p with
  | .ptr id z i o=>okA (.ptr id z i o)
  | .ipt k x o=>okA (.ipt k x o)
  | _=>A0
 | .binOp op t x y _=>Q3 P op t (ρ x) (ρ y)
 | .unOp op _ x=>unA op (ρ x)
 | .convert src dst x=>match P.underlying src,P.underlying dst with
  | some (.slice e),I .string=>match P.underlying e with
   | some (.int .u8)=>(CM H .u8<|ρ x).bind λxs=>okA<|.s<|BK xs
   | _=>A0
  | _,_=>match J0 P src dst (ρ x) with
   | some (c,.own _,os)=>I (c,.own b,os)
   | r=>r
 | .makeSlice t l c=>match ρ l,ρ c,(match l,c with
   | .tmp i,.tmp j=>Al i j
   | _,_=>A3) with
  | .lit (.int .i64 n),_,U=>(Iq P t).bind λe=>(kd e).bind λk=>
   match zok P e k&&Al (P.cellsOf e) (ks k)&&E9 (P.bytesOf e) 256 with
   | true=>I (A1 (0<=n)&&A1 (n<=4294967296),.own b,[.row e A3 k (BV n.toNat<|dfl k)])
   | false=>A0
  | .lit (.int .i64 n),.lit (.int .i64 m),A3=>match A1 (n=m) with
   | true=>(Iq P t).bind λe=>(kd e).bind λk=>
    match zok P e k&&Al (P.cellsOf e) (ks k)&&E9 (P.bytesOf e) 256 with
    | true=>I (A1 (0<=n)&&A1 (n<=4294967296),.own b,[.row e A3 k (BV n.toNat<|dfl k)])
    | false=>A0
   | false=>A0
  | _,_,_=>A0
 | .slice t x lo hi A0=>match JK P H t (ρ x) with
  | true=>RH (lo.map ρ) (hi.map ρ) (ρ x)
  | false=>A0
 | .fieldAddr t x f=>(MH P t f).bind λfd=>match E9 1 (P.cellsOf fd.type) with
  | true=>match ρ x with
   | .ptr id z i o=>okA (.ptr id z i<|o+fd.offset)
   | .ipt k v o=>okA (.ipt k v<|o+fd.offset)
   | _=>A0
  | false=>A0
 | .field t x f=>(MH P t f).bind λfd=>match ρ x with
  | .agg cs=>(HV P fd.type cs fd.offset).bind okA
  | _=>A0
 | .indexAddr t x ix=>match ρ ix with
  | .lit (.int _ i)=>NU P H t i (ρ x)
  | _=>A0
 | .index t x ix=>match ρ ix with
  | .lit (.int _ i)=>SN P t i (ρ x)
  | _=>A0
 | .extract x i=>match ρ x with
  | .tup vs=>(vs[i]?).bind okA
  | _=>A0
 | .call c=>Ja P ρ H c
 | _=>A0
abbrev Dx:AV:= .lit undef
def HR:AV->Option Nat
 | .own id=>I id
 | _=>A0
def nop:AV->Bool
 | .lit (.pointer (I _))=>A3
 | .lit _=>U
 | .sl _ _=>U
 | .own _=>U
 | _=>A3
def rX(o n:Nat)(cs:List AV):Bool:=E9 (o+n) cs.length&&(E9 1 o||nop (cs.headD<|.lit<|.bool A3))
def Iu(P:Program)(t:TypeId)(s:S):AV->AV->Option S
 | .ptr id z i o,x=>match s.H id with
  | some (.box e cs)=>match i with
   | 0=>(Gw x).bind λys=>match Al ys.length (P.cellsOf t)&&E9 1 (P.cellsOf t)&&rX o ys.length cs with
    | true=>I (s.ET id<|I<|.box e<|HO cs o ys)
    | false=>A0
   | _=>A0
  | some (.row e fz k xs)=>(Gw x).bind λys=>match Al ys.length (P.cellsOf t)&&E9 1 (P.cellsOf t)&&E9 (o+ys.length) (ks k)&&Al z (ks k)&& !((ys.filterMap HR).any λj=>Al j id) with
   | true=>(dec s.H k<|HO (enc k<|xs.getD i<|dfl k) o ys).bind λy=>
    I (((ys.filterMap HR).foldl S.freeze s).ET id<|I<|.row e fz k<|xs.set i y)
   | false=>A0
  | some (.arr e k xs)=>(Gw x).bind λys=>match Al ys.length (P.cellsOf t)&&E9 1 (P.cellsOf t)&&E9 (o+ys.length) (ks k)&&Al z (ks k) with
   | true=>(dec (λ_=>A0) k<|HO (enc k<|xs.getD i<|dfl k) o ys).bind λy=>I<|s.ET id<|I<|.arr e k<|xs.set i y
   | false=>A0
  | none=>A0
 | _,_=>A0
def Kk(H:Hp)(k:K):AV->Option (List<|Tof k)
 | .lit (.string s)=>match k with
  | .u8=>I (BF s)
  | _=>A0
 | v=>CM H k v
def LS(P:Program)(kd:TypeId->Option K)(t t2:TypeId)(s:S)(b:Nat)(x y:AV):Option (Bool×AV×S):=
 (Iq P t).bind λe=>(kd e).bind λk=>(Kk s.H k y).bind λys=>
 match Al (P.cellsOf e) (ks k)&&E9 (P.bytesOf e) 256&&zok P e k&&(match P.underlying t2 with
   | some .string=>U
   | some (.slice _)=>U
   | _=>A3),x with
 | true,.lit (.slice A0 0 0)=>I (Af ys.length,.own b,s.ET b<|I<|.row e A3 k ys)
 | true,.own id=>match s.H id,(match y with
   | .own j=>Al j id
   | _=>A3) with
  | some (.row e' A3 k' xs),A3=>match Al e e' with
   | true=>(J1 k' k xs).bind λxs=>I (Af<|xs.length+ys.length,.own id,(s.map<|kl1 id).ET id<|I<|.row e A3 k<|xs++ys)
   | false=>A0
  | _,_=>A0
 | _,_=>A0
def Ld(P:Program)(t:TypeId)(s:S)(x y:AV):Option (AV×S):=match x with
 | .own id=>match s.H id,(match y with
   | .own j=>Al j id
   | _=>A3) with
  | some (.row e fz k xs),A3=>(Iq P t).bind λe'=>match Al (P.cellsOf e') (ks k) with
   | true=>(Kk s.H k y).bind λys=>I (.i (FI ys.length xs.length:Nat),s.ET id<|I<|.row e fz k<|ys.take xs.length++xs.drop ys.length)
   | false=>A0
  | _,_=>A0
 | _=>A0
def LN(s:S)(id:Nat)(z:Bool)(lo hi:Option AV):Option (Bool×AV×S):=match s.H id with
 | some (.row e fz k xs)=>(Ji lo hi xs.length).bind fun(c,l,h)=>match z,hi with
  | true,A0=>I (c,.own id,(s.map<|kl1 id).ET id<|I<|.row e fz k<|J2 lo hi l h xs)
  | true,I _=>A0
  | false,_=>I (c,.sl k<|J2 lo hi l h xs,s.freeze id)
 | _=>A0
inductive Sh where
 | int (k:IntKind)
 | bool
 | str
 | sl (k:K)
 | row (e:TypeId) (k:K)
 | fz (k:K)
 | agg (l:List Sh)
 | Cq (e:TypeId) (k:K)
 | abx (e:TypeId) (k:K)
 | arr (k:K)
 | same (t:Nat)
 | box (e:TypeId) (l:List Sh)
mutual
abbrev LT:Sh->Type
 | .int _=>Int
 | .bool=>Bool
 | .str=>A4
 | .sl k=>List (Tof k)
 | .row _ k=>List (Tof k)
 | .fz k=>List (Tof k)
 | .Cq _ k=>List (Tof k)
 | .abx _ k=>List (Tof k)
 | .arr k=>List (Tof k)
 | .same _=>A2
 | .agg l=>LTs l
 | .box _ l=>LTs l
abbrev LTs:List Sh->Type
 | []=>A2
 | h::l=>LT h×LTs l
end
mutual
def Bs (E:Nat->AV) (H:Hp):(h:Sh)->AV->Option (LT h)
 | .int k,.lit (.int k' n)=>match A1 (k=k') with
  | true=>I n
  | false=>A0
 | .bool,.lit (.bool b)=>I b
 | .str,.lit (.string s)=>I s
 | .sl k,.sl k' xs=>J1 k' k xs
 | .sl _,.lit (.slice A0 0 0)=>I []
 | .row _ _,.lit (.slice A0 0 0)=>I []
 | .row e k,.own id=>match H id with
  | some (.row e' A3 k' xs)=>match Al e e' with
   | true=>J1 k' k xs
   | false=>A0
  | _=>A0
 | .fz k,v=>CM H k v
 | .Cq e k,.own id=>match H id with
  | some (.row e' U k' xs)=>match Al e e' with
   | true=>J1 k' k xs
   | false=>A0
  | _=>A0
 | .abx e k,.ptr id z 0 0=>match H id with
  | some (.arr e' k' xs)=>match Al e e'&&Al z (ks k) with
   | true=>J1 k' k xs
   | false=>A0
  | _=>A0
 | .arr k,.arr k' xs=>J1 k' k xs
 | .same t,.ptr id _ 0 0=>match E t with
  | .ptr id' _ 0 0=>match Al id id' with
   | true=>I ()
   | false=>A0
  | _=>A0
 | .agg l,.agg cs=>GZ E H l cs
 | .box e l,.ptr id _ 0 0=>match H id with
  | some (.box e' cs)=>match Al e e' with
   | true=>GZ E H l cs
   | false=>A0
  | _=>A0
 | _,_=>A0
def GZ (E:Nat->AV) (H:Hp):(l:List Sh)->List AV->Option (LTs l)
 | [],[]=>I ()
 | h::l,c::cs=>(Bs E H h c).bind λx=>(GZ E H l cs).bind λxs=>I (x,xs)
 | _,_=>A0
end
mutual
def Cl (H:Hp):Sh->AV->List Nat
 | .row _ _,.own id=>[id]
 | .Cq _ _,.own id=>[id]
 | .abx _ _,.ptr id _ 0 0=>[id]
 | .agg l,.agg cs=>Bp H l cs
 | .box _ l,.ptr id _ 0 0=>match H id with
  | some (.box _ cs)=>Bp H l cs++[id]
  | _=>[]
 | _,_=>[]
def Bp (H:Hp):List Sh->List AV->List Nat
 | h::l,c::cs=>Cl H h c++Bp H l cs
 | _,_=>[]
end
mutual
def CL (H:Hp):Sh->AV->List Nat
 | .row _ _,.own id=>[id]
 | .Cq _ _,.own id=>[id]
 | .abx _ _,.ptr id _ 0 0=>[id]
 | .agg l,.agg cs=>Cj H l cs
 | .box _ l,.ptr id _ 0 0=>match H id with
  | some (.box _ cs)=>Cj H l cs
  | _=>[]
 | _,_=>[]
def Cj (H:Hp):List Sh->List AV->List Nat
 | h::l,c::cs=>CL H h c++Cj H l cs
 | _,_=>[]
end
mutual
def Cw (H:Hp):Sh->AV->List Nat
 | .fz _,.own id=>[id]
 | .agg l,.agg cs=>D5 H l cs
 | .box _ l,.ptr id _ 0 0=>match H id with
  | some (.box _ cs)=>D5 H l cs
  | _=>[]
 | _,_=>[]
def D5 (H:Hp):List Sh->List AV->List Nat
 | h::l,c::cs=>Cw H h c++D5 H l cs
 | _,_=>[]
end
def Nf:List Nat->Bool
 | []=>U
 | a::l=> !(l.any λb=>Al a b)&&Nf l
def off(l m:List Nat):Bool:=l.all λa=> !(m.any λb=>Al a b)
mutual
def BL (E:Nat->AV) (H:Hp) (b:Nat):(h:Sh)->LT h->AV×Hp×Nat
 | .int k,n=>(.lit<|.int k n,H,b)
 | .bool,x=>(.b x,H,b)
 | .str,s=>(.s s,H,b)
 | .sl k,xs=>(.sl k xs,H,b)
 | .row e k,xs=>(.own b,upd H b<|I<|.row e A3 k xs,b+1)
 | .fz k,xs=>(.sl k xs,H,b)
 | .Cq e k,xs=>(.own b,upd H b<|I<|.row e U k xs,b+1)
 | .abx e k,xs=>(.ptr b (ks k) 0 0,upd H b<|I<|.arr e k xs,b+1)
 | .arr k,xs=>(.arr k xs,H,b)
 | .same t,_=>(E t,H,b)
 | .agg l,x=>match Ao E H b l x with
  | (cs,H,b)=>(.agg cs,H,b)
 | .box e l,x=>match Ao E H b l x with
  | (cs,H,b)=>(.ptr b cs.length 0 0,upd H b<|I<|.box e cs,b+1)
def Ao (E:Nat->AV) (H:Hp) (b:Nat):(l:List Sh)->LTs l->List AV×Hp×Nat
 | [],_=>([],H,b)
 | h::l,x=>match BL E H b h x.1 with
  | (c,H,b)=>match Ao E H b l x.2 with
   | (cs,H,b)=>(c::cs,H,b)
end
mutual
def DB (E:Nat->AV) (H:Hp) (b:Nat):(h:Sh)->AV->LT h->AV×Hp×Nat
 | .box e l,.ptr id z 0 0,x=>match H id with
  | some (.box _ cs)=>match BR E H b l cs x with
   | (ds,H,b)=>(.ptr id z 0 0,upd H id<|I<|.box e ds,b)
  | _=>(.un,H,b)
 | .same _,v,_=>(v,H,b)
 | h,_,x=>BL E H b h x
def BR (E:Nat->AV) (H:Hp) (b:Nat):(l:List Sh)->List AV->LTs l->List AV×Hp×Nat
 | [],_,_=>([],H,b)
 | h::l,cs,x=>match DB E H b h (cs.headD .un) x.1 with
  | (d,H,b)=>match BR E H b l cs.tail x.2 with
   | (ds,H,b)=>(d::ds,H,b)
end
def VL:Sh->Bool
 | .box _ _=>U
 | _=>A3
abbrev B6:List Sh->List Sh
 | []=>[]
 | .box e l::ps=> .box e l::B6 ps
 | .int _::ps=>B6 ps
 | .bool::ps=>B6 ps
 | .str::ps=>B6 ps
 | .sl _::ps=>B6 ps
 | .row _ _::ps=>B6 ps
 | .fz _::ps=>B6 ps
 | .Cq _ _::ps=>B6 ps
 | .abx _ _::ps=>B6 ps
 | .arr _::ps=>B6 ps
 | .same _::ps=>B6 ps
 | .agg _::ps=>B6 ps
def GC:List Sh->List AV->List AV
 | .box _ _::ps,v::vs=>v::GC ps vs
 | _::ps,_::vs=>GC ps vs
 | _,_=>[]
def SA:K->Bool
 | .half=>A3
 | .keep=>A3
 | .AN=>A3
 | _=>U
mutual
def Mw:Sh->Bool
 | .sl _=>U
 | .fz _=>U
 | .row _ k=> !SA k
 | .Cq _ k=> !SA k
 | .abx _ k=> !SA k
 | .arr k=> !SA k
 | .agg l=>CY l
 | .box _ l=>CY l
 | _=>A3
def CY:List Sh->Bool
 | []=>A3
 | h::l=>Mw h||CY l
end
structure Dd where
 ps:List Sh
 rs:List Sh
 g:LTs ps->Option (LTs rs×LTs (B6 ps))
def Mb:List AV->AV
 | [v]=>v
 | vs=> .tup vs
def Gf(q:Bool)(ids:List Nat)(s:S):S:=match q with
 | true=>ids.foldl S.freeze s
 | false=>s
def Ht{Ω:Type}(m:Dd)(s:S)(b:Nat)(d:Option Nat)(as:List AV)(k:S->Option Ω):Option Ω:=
 let E:Nat->AV:=λi=>(as[i]?).getD .un
 match GZ E s.H m.ps as,Nf (Bp s.H m.ps as)&&off (D5 s.H m.ps as) (Bp s.H m.ps as) with
 | some x,U=>(m.g x).bind λr=>
  let s1:=(Cj s.H m.ps as).foldl S.kill s
  let s2:S:=Gf (CY m.rs||CY (B6 m.ps)) (D5 s.H m.ps as) s1
  match BR E s2.H b (B6 m.ps) (GC m.ps as) r.2 with
  | (_,H,b1)=>match Ao E H b1 m.rs r.1 with
   | (vs,H,b2)=>match E9 b2 (b+16) with
    | true=>k ({ s2 with H:=H }.put d<|Mb vs)
    | false=>A0
 | _,_=>A0
structure Cx where
 P:Program
 kd:TypeId->Option K
 Γ:Nat->Option Nat->Option Dd
 cz:Nat->Bool
 sp:Nat->Bool
abbrev Inl(Ω:Type):=Nat->Option Nat->List AV->S->(S->Option Ω)->Option Ω
def LW(ρ:Operand->AV)(ps:List (Nat×Operand)):List Nat:=ps.flatMap λp=>match ρ p.2 with
 | .agg cs=>cs.filterMap HR
 | v=>(HR v).toList
def CS{Ω:Type}(C:Cx)(inl:Inl Ω)(o:Oper)(b:Nat)(s:S)(k:S->Option Ω):Option Ω:=
 match s.has o.dst with
 | false=>A0
 | true=>match o.op with
  | .store t p x=>match Iu C.P t s (s.ev p) (s.ev x) with
   | some s=>k (s.put o.dst Dx)
   | none=>A0
  | .call c=>match c.callee,c.args.toList,c.argTypes.toList with
   | .value (.func f),as,_=>match C.Γ f o.dst with
    | some m=>Ht m s b o.dst (as.map s.ev) k
    | none=>inl f o.dst (as.map s.ev) s k
   | .builtin .append,[x,y],[t,u]=>match LS C.P C.kd t u s b (s.ev x) (s.ev y) with
    | some (q,v,s)=>if q then k (s.put o.dst v) else A0
    | none=>A0
   | .builtin .copy,[x,y],[t,_]=>match Ld C.P t s (s.ev x) (s.ev y) with
    | some (v,s)=>k (s.put o.dst v)
    | none=>A0
   | _,_,_=>match CK C.P C.kd s.ev s.H b o.op with
    | some (q,v,os)=>if q then k ({ s with H:=F4 s.H b os }.put o.dst v) else A0
    | none=>A0
  | .slice t x lo hi A0=>match s.ev x with
   | .own id=>match JK C.P s.H t (.own id) with
    | false=>A0
    | true=>match LN s id (match o.dst with
     | some d=>C.cz d
     | none=>A3) (lo.map s.ev) (hi.map s.ev) with
    | some (c,v,s)=>if c then k (s.put o.dst v) else A0
    | none=>A0
   | _=>match CK C.P C.kd s.ev s.H b (.slice t x lo hi A0) with
    | some (c,v,os)=>if c then k ({ s with H:=F4 s.H b os }.put o.dst v) else A0
    | none=>A0
  | .buildSlice t n ps=>
   let s:=(LW s.ev ps.toList).foldl S.freeze s
   match CK C.P C.kd s.ev s.H b (.buildSlice t n ps) with
   | some (c,v,os)=>if c then k ({ s with H:=F4 s.H b os }.put o.dst v) else A0
   | none=>A0
  | op=>match CK C.P C.kd s.ev s.H b op with
   | some (c,v,os)=>if c then k ({ s with H:=F4 s.H b os }.put o.dst v) else A0
   | none=>A0
mutual
def Gc:Sh->Bool
 | .int _=>U
 | .bool=>U
 | .str=>U
 | .agg l=>NZ l
 | _=>A3
def NZ:List Sh->Bool
 | []=>U
 | h::l=>Gc h&&NZ l
end
mutual
def ayz:(h:Sh)->LT h
 | .int _=>(0:Int)
 | .bool=>A3
 | .str=>noB
 | .sl _=>[]
 | .row _ _=>[]
 | .fz _=>[]
 | .Cq _ _=>[]
 | .abx _ _=>[]
 | .arr _=>[]
 | .same _=>()
 | .agg l=>MY l
 | .box _ l=>MY l
def MY:(l:List Sh)->LTs l
 | []=>()
 | h::l=>(ayz h,MY l)
end
def spA(C:Cx)(b:Nat)(d:Option Nat)(ρ:Operand->AV)(H:Hp):Op->Option (Bool×AV)
 | .call c=>match c.callee,c.args.toList,c.argTypes.toList with
  | .value (.func f),as,_=>(C.Γ f d).bind λm=>
   let E:Nat->AV:=λi=>((as.map ρ)[i]?).getD .un
   match NZ m.rs&&(B6 m.ps).isEmpty&&(Cj H m.ps<|as.map ρ).isEmpty&&(Bp H m.ps<|as.map ρ).isEmpty with
   | true=>(GZ E H m.ps<|as.map ρ).bind λx=>I ((m.g x).isSome,Mb (Ao E H b m.rs ((m.g x).getD (MY m.rs,MY<|B6 m.ps)).1).1)
   | false=>A0
  | .builtin .append,_,_=>A0
  | .builtin .copy,_,_=>A0
  | _,_,_=>match Ja C.P ρ H c with
   | some (q,v,[])=>I (q,v)
   | _=>A0
 | .store _ _ _=>A0
 | .buildSlice _ _ _=>A0
 | .slice t x lo hi A0=>match ρ x with
  | .own _=>A0
  | _=>match CK C.P C.kd ρ H b (.slice t x lo hi A0) with
   | some (q,v,[])=>I (q,v)
   | _=>A0
 | op=>match CK C.P C.kd ρ H b op with
  | some (q,v,[])=>I (q,v)
  | _=>A0
def eqW(c want:Bool):Bool:=match want with
 | true=>c
 | false=> !c
def Ah(c q:Bool):Bool:=match q with
 | true=>U
 | false=> !c
def Mi(ops:Array Oper)(s:S):Nat->Oper->Option Bool
 | 0,_=>A0
 | n+1,o=>match o.guard with
  | none=>I U
  | some (j,want)=>(ops[j]?).bind λoj=>oj.dst.bind λg=>match s.T g with
   | .lit (.bool c)=>I (eqW c want)
   | .lit (.tuple _)=>I A3
   | .gd g' w' (.lit (.bool c))=>match oj.guard with
    | some (j',w2)=>match (ops[j']?).bind (·.dst) with
     | some g2=>match Al g' g2,w' == w2 with
      | true,U=>(Mi ops s n oj).bind λb=>I<|b&&eqW c want
      | _,_=>A0
     | none=>A0
    | none=>A0
   | _=>A0
def abK(c:Option Bool)(q:Bool):Bool:=match c with
 | some c=>Ah c q
 | none=>q
def ry:AV->Bool
 | .gd _ _ _=>A3
 | _=>U
def S.narrow(s:S)(g:Nat)(w:Bool):S:={ s with T:=upd (λt=>Gy g w<|s.T t) g (.b w) }
def evG{Ω:Type}(C:Cx)(inl:Inl Ω)(ops:Array Oper)(o:Oper)(b:Nat)(s:S)(k:S->Option Ω):Option Ω:=
 match o.guard with
 | none=>CS C inl o b s k
 | some (j,want)=>match (ops[j]?).bind (·.dst),(match o.dst with
   | some d=>C.sp d
   | none=>A3) with
  | none,_=>A0
  | some g,U=>match { s with gs:=upd s.gs g U }.has o.dst,spA C b o.dst (s.narrow g want).ev s.H o.op with
   | true,I (q,v)=>match ry v with
    | true=>if abK (Mi ops s 4 o) q then k { s.put o.dst (.gd g want v) with gs:=upd s.gs g U } else A0
    | false=>A0
   | _,_=>A0
  | some g,A3=>match s.T g with
   | .lit (.bool c)=>
    let yes:Option Ω:=CS C inl o b { s with T:=upd s.T g (.b want) } k
    let no:Option Ω:=match s.has o.dst with
     | true=>k ({ s with T:=upd s.T g (.b<|!want) }.put o.dst Dx)
     | false=>A0
    match want with
    | true=>if c then yes else no
    | false=>if c then no else yes
   | .lit (.tuple _)=>match s.has o.dst with
    | true=>k (s.put o.dst Dx)
    | false=>A0
   | _=>A0
def Pq{Ω:Type}(C:Cx)(inl:Inl Ω)(ops:Array Oper):List Oper->S->(S->Option Ω)->Option Ω
 | [],s,k=>k s
 | o::l,s,k=>evG C inl ops o s.nid s λs=>Pq C inl ops l { s with nid:=s.nid+16 } k
def cC(Ω:Type):Inl Ω:=λ_ _ _ _ _=>A0
mutual
def Dt:Sh->Bool
 | .agg _=>A3
 | .same _=>A3
 | .arr _=>A3
 | .box _ l=>IG l
 | _=>U
def IG:List Sh->Bool
 | []=>U
 | h::l=>Dt h&&IG l
end
def ab8:Sh->Bool
 | .agg l=>IG l
 | .arr _=>U
 | h=>Dt h
def cG:List Sh->Bool
 | []=>U
 | h::l=>ab8 h&&cG l
def okS(m:Dd):Bool:=cG m.rs&&IG (B6 m.ps)
def PQ(H:Hp)(x y:AV):List Nat:=match x with
 | .ptr id _ _ _=>match H id with
  | some (.row _ _ _ _)=>id::((Gw y).getD []).filterMap HR
  | _=>[id]
 | _=>[]
def fzl(q:Bool)(l:List Nat):List Nat:=match q with
 | true=>l
 | false=>[]
def Kn(v:AV):List Nat:=(HR v).toList
def EG(C:Cx)(s:S)(o:Oper):Option (List Nat):=match o.op with
 | .store _ p x=>I (PQ s.H (s.ev p)<|s.ev x)
 | .call c=>match c.callee,c.args.toList with
  | .value (.func f),as=>match C.Γ f o.dst with
   | some m=>match (B6 m.ps).isEmpty with
    | true=>I (Cj s.H m.ps (as.map s.ev)++fzl (CY m.rs||CY (B6 m.ps)) (D5 s.H m.ps<|as.map s.ev))
    | false=>A0
   | none=>A0
  | .builtin .append,x::_=>I (Kn<|s.ev x)
  | .builtin .copy,x::_=>I (Kn<|s.ev x)
  | _,_=>I []
 | .slice _ x _ _ A0=>I (Kn<|s.ev x)
 | .buildSlice _ _ ps=>I (LW s.ev ps.toList)
 | _=>I []
def Jg(C:Cx)(s:S)(o:Oper):List Nat:=match o.op with
 | .call c=>match c.callee,c.args.toList with
  | .value (.func f),as=>match C.Γ f o.dst with
   | some m=>Cj s.H m.ps (as.map s.ev)++fzl (CY m.rs||CY (B6 m.ps)) (D5 s.H m.ps<|as.map s.ev)
   | none=>[]
  | _,_=>[]
 | _=>[]
def okO(C:Cx)(o:Oper):Bool:=match o.op with
 | .call c=>match c.callee with
  | .value (.func f)=>match C.Γ f o.dst with
   | some m=>okS m
   | none=>A3
  | _=>U
 | _=>U
mutual
def Iy:Sh->Bool
 | .agg _=>A3
 | .arr _=>A3
 | .box _ l=>MW l
 | _=>U
def MW:List Sh->Bool
 | []=>U
 | h::l=>Iy h&&MW l
end
def s7:Sh->Bool
 | .agg l=>MW l
 | .arr _=>U
 | h=>Iy h
def KM:List Sh->Bool
 | []=>U
 | h::l=>s7 h&&KM l
def O8:AV->Option (List Nat)
 | .own id=>I [id]
 | .ptr id _ _ _=>I [id]
 | .agg _=>A0
 | .tup _=>A0
 | .gd _ _ _=>A0
 | _=>I []
def ch:List AV->Option (List Nat)
 | []=>I []
 | c::cs=>(O8 c).bind λa=>(ch cs).bind λb=>I<|a++b
def O7:AV->Option (List Nat)
 | .agg cs=>ch cs
 | v=>O8 v
def s6:List AV->Option (List Nat)
 | []=>I []
 | c::cs=>(O7 c).bind λa=>(s6 cs).bind λb=>I<|a++b
def cj:AV->Option (List Nat)
 | .tup vs=>s6 vs
 | v=>O7 v
def VT:AV->Option (List Nat)
 | .gd _ _ v=>cj v
 | v=>cj v
def bit(i:Nat):Nat:=Nat.shiftLeft 1 i
def msk:List Nat->Nat
 | []=>0
 | i::l=>BQ (bit i) (msk l)
def nm(b:Nat):Nat:=Nat.shiftLeft 65535 b
def dsj(a b:Nat):Bool:=Al (Ph a b) 0
def sbs(a b:Nat):Bool:=Al (Ph a b) a
def tst(a i:Nat):Bool:= !(dsj a<|bit i)
def aal(H:Hp)(id:Nat):Option (List Nat):=match H id with
 | some (.box _ cs)=>ch cs
 | _=>I []
def cR(H:Hp):List Nat->Option (List Nat)
 | []=>I []
 | i::l=>(aal H i).bind λa=>(cR H l).bind λb=>I<|a++b
def clo(H:Hp):Nat->List Nat->Option Nat
 | 0,[]=>I 0
 | 0,_::_=>A0
 | n+1,l=>match l with
  | []=>I 0
  | i::l=>(cR H<|i::l).bind λm=>(clo H n m).bind λr=>I<|BQ (msk<|i::l) r
def cM(ops:Array Oper):Nat->Oper->List Nat
 | 0,_=>[]
 | n+1,o=>match o.guard with
  | none=>[]
  | some (j,_)=>match ops[j]? with
   | some oj=>oj.dst.toList++cM ops n oj
   | none=>[]
abbrev DQ(ops:Array Oper)(o:Oper):List Nat:=o.looksAt ops++cM ops 4 o
def mov:Op->Bool
 | .move _=>U
 | .assign _=>U
 | .nilCheck _=>U
 | .binOp _ _ _ _ _=>U
 | .unOp _ _ _=>U
 | .fieldAddr _ _ _=>U
 | .field _ _ _=>U
 | .extract _ _=>U
 | .index _ _ _=>U
 | .build _ _=>U
 | _=>A3
def pur(o:Oper):Bool:=match o.op with
 | .store _ _ _=>A3
 | .call _=>A3
 | .slice _ _ _ _ _=>A3
 | .buildSlice _ _ _=>A3
 | _=>U
structure Rec where
 i:Nat
 b:Nat
 F:Nat
 N:Nat
 W:Nat
 K:Nat
 anc:Nat
 V:List Nat
 o:Oper
def Hu(i:Nat):List Rec->Option Rec
 | []=>A0
 | r::l=>match Al r.i i with
  | true=>I r
  | false=>Hu i l
def SE(acc:List Rec):List Edge->Option Nat
 | []=>I 0
 | e::l=>match G4 .any e with
  | true=>(Hu e.on acc).bind λr=>(SE acc l).bind λm=>I<|BQ (BQ (bit e.on) r.anc) m
  | false=>SE acc l
def rb(t:Nat):Option Nat->Bool
 | some d=>Al d t
 | none=>A3
def abA(t:Nat)(l:List Nat):Bool:=l.any λx=>Al x t
def Px(d:Option Nat)(l:List Nat):Bool:=match d with
 | some t=> !(abA t l)
 | none=>U
def rk(d e:Option Nat):Bool:=match d,e with
 | some a,I b=> !(Al a b)
 | _,_=>U
def SB(t:Nat):List Rec->Option Rec
 | []=>A0
 | r::l=>match rb t r.o.dst with
  | true=>I r
  | false=>SB t l
def cS(s0:S)(acc:List Rec):List Nat->Option (List Nat)
 | []=>I []
 | t::l=>(match SB t acc with
  | some r=>I r.V
  | none=>VT (s0.T t)).bind λa=>(cS s0 acc l).bind λb=>I<|a++b
def mvO(o:Oper):Bool:=mov o.op&&pur o&&o.guard.isNone
def PV(anc:Nat):List Rec->Nat->Nat
 | [],F=>F
 | r::l,F=>PV anc l (match tst anc r.i&& !(dsj r.W F)&& !(mvO r.o) with
  | true=>BQ r.F F
  | false=>F)
def abG(C:Cx)(ops:Array Oper)(s0:S)(o:Oper)(i b:Nat)(acc:List Rec)(s:S):Option Rec:=
 (SE acc o.after.toList).bind λanc=>(cS s0 acc<|DQ ops o).bind λl=>(clo s0.H 4 l).bind λc=>
 let F:=match mvO o with
  | true=>BQ (msk l) (nm b)
  | false=>PV anc acc (BQ c<|nm b)
 let W:=match EG C s o with
  | none=>F
  | some l=>BQ (msk l) (nm b)
 let K:=match EG C s o with
  | none=>BQ (msk<|Jg C s o) (nm b)
  | some l=>BQ (msk l) (nm b)
 let N:=match mvO o with
  | true=>nm b
  | false=>match pur o,o.guard with
   | true,A0=>BQ (msk l) (nm b)
   | _,_=>F
 match sbs W F with
 | true=>I { i:=i,b:=b,F:=F,N:=N,W:=W,K:=K,anc:=anc,V:=[],o:=o }
 | false=>A0
def azC:Op->Bool
 | .load _ _=>U
 | _=>A3
def abO(C:Cx)(ops:Array Oper)(s:S):Nat->Nat->AV
 | 0,t=>s.T t
 | n+1,t=>match ops.toList.find? (λo=>rb t o.dst) with
  | none=>s.T t
  | some o=>match mov o.op||azC o.op with
   | true=>(match CK C.P C.kd (λx=>match x with
     | .tmp t=>abO C ops s n t
     | x=>s.ev x) s.H s.nid o.op with
    | some (_,v,_)=>v
    | none=> .un)
   | false=> .un
def az4(o:Oper):Option Nat:=match o.op with
 | .slice _ (.tmp x) _ _ A0=>I x
 | _=>A0
def rq:List Nat->List Nat
 | []=>[]
 | i::l=>match l.any (Al i) with
  | true=>i::rq l
  | false=>rq l
def SL(C:Cx)(ops:Array Oper)(s:S):List Nat:=match ops.toList.filterMap az4 with
 | []=>[]
 | [_]=>[]
 | xs=>rq (xs.filterMap λx=>HR<|abO C ops s 4 x)
def chk(ops:Array Oper)(x r:Rec):Bool:=
 rk x.o.dst r.o.dst&&match tst r.anc x.i with
  | true=>(dsj x.W r.N||sbs x.F r.F)&&(Px x.o.dst (DQ ops r.o)||(sbs (msk x.V) r.F&&(mov r.o.op||sbs (msk x.V) r.N)))&&dsj x.F (nm r.b)
  | false=>(dsj x.K r.F&&dsj r.K x.F)&&(dsj x.W r.N&&dsj r.W x.N)&&(dsj x.W r.W&&(dsj x.F (nm r.b)&&dsj r.F (nm x.b)))&&Px x.o.dst (DQ ops r.o)&&Px r.o.dst (DQ ops x.o)
def vOf(s:S):Option Nat->Option (List Nat)
 | none=>I []
 | some t=>VT (s.T t)
def evD{Ω:Type}(C:Cx)(ops:Array Oper)(s0:S):List Oper->Nat->Nat->List Rec->S->(S->Option Ω)->Option Ω
 | [],_,b,_,s,k=>k { s with nid:=b }
 | o::l,i,b,acc,s,k=>match abG C ops s0 o i b acc s with
  | none=>A0
  | some r=>match acc.all (λx=>chk ops x r)&&okO C o&&Px o.dst (DQ ops o) with
   | true=>evG C (cC Ω) ops o b s λs'=>(vOf s' o.dst).bind λV=>evD C ops s0 l (i+1) (b+16) ({ r with V:=V } ::acc) s' k
   | false=>A0
abbrev Sch:=List<|Nat×Sh
abbrev Lv(c:Sch):Type:=LTs (c.map (·.2))
def qh(H:Hp)(T:Nat->AV):(c:Sch)->Option (Lv c)
 | []=>I ()
 | (t,h)::c=>(Bs T H h<|T t).bind λx=>(qh H T c).bind λxs=>I (x,xs)
def PH(H:Hp)(T:Nat->AV):Sch->List Nat
 | []=>[]
 | (t,h)::c=>Cl H h (T t)++PH H T c
def rB(H:Hp)(T:Nat->AV):Sch->List Nat
 | []=>[]
 | (t,h)::c=>Cw H h (T t)++rB H T c
def MS(T:Nat->AV)(H:Hp)(b:Nat):(c:Sch)->Lv c->(Nat->AV)×Hp×Nat
 | [],_=>(T,H,b)
 | (t,h)::c,x=>match BL T H b h x.1 with
  | (v,H,b)=>MS (upd T t v) H b c x.2
def mkS(n:Nat)(p:List Nat)(c:Sch)(x:Lv c):S:=match MS (λ_=> .un) (λ_=>A0) 0 c x with
 | (T,H,b)=>{ n:=n,T:=T,H:=H,nid:=b,st:=[],pins:=p,gs:=λ_=>A3 }
def abE(n:Nat)(c:Sch):Bool:=Nf (c.map (·.1))&&KM (c.map (·.2))&&c.all λx=>Ib x.1 n
def rdS(c:Sch)(s:S):Option (Lv c):=match s.st,Nf (PH s.H s.T c)&&off (rB s.H s.T c) (PH s.H s.T c),abE s.n c with
 | [],U,U=>qh s.H s.T c
 | _,_,_=>A0
structure Loop where
 sch:Sch
 L5:Sch
 xid:Nat
 L4:Sch
 run:Lv sch->Option (Lv L4 ⊕ Lv L5)
inductive Adv where
 | nil
 | one (a:Adv)
 | two (a b:Adv)
 | join (c:Sch) (a b:Adv)
 | loop (l:Loop)
def Adv.a:Adv->Adv
 | .one a=>a
 | .two a _=>a
 | .join _ a _=>a
 | _=> .nil
def Adv.z:Adv->Adv
 | .two _ b=>b
 | .join _ _ b=>b
 | _=> .nil
structure Kt (Ω:Type) where
 nrm:S->Option Ω
 ret:S->Option Ω
 ext:Nat->S->Option Ω
def BW{Ω X:Type}(f:X->Option Ω)(m:Option (Ω ⊕ X)):Option Ω:=m.bind λr=>match r with
 | .inl o=>I o
 | .inr x=>f x
def AP{A D Ω:Type}(m:Option (A ⊕ D))(f:A->Option Ω)(g:D->Option Ω):Option Ω:=m.bind λr=>match r with
 | .inl a=>f a
 | .inr b=>g b
def Hv{X Y:Type}(b:X->Option (X ⊕ Y)):Nat->X->Option Y
 | 0,_=>A0
 | n+1,x=>(b x).bind λr=>match r with
  | .inl y=>Hv b n y
  | .inr z=>I z
open Classical in
def AW {X Y:Type} (b:X->Option (X ⊕ Y)) (x:X):Option Y:=
 if h:∃n y,Hv b n x=I y then I (Nt<|J9 h) else A0
def evk(C:Cx)(inl:(Ω:Type)->Inl Ω):Code->(Ω:Type)->Adv->Kt Ω->S->Option Ω
 | .skip,_,_,k,s=>k.nrm s
 | .region _ ops A3,Ω,_,k,s=>Pq C (inl Ω) ops ops.toList s k.nrm
 | .region _ ops U,_,_,k,s=>evD C ops ((SL C ops s).foldl S.freeze s) ops.toList 0 s.nid [] ((SL C ops s).foldl S.freeze s) k.nrm
 | .seq a b,Ω,.join c u v,k,s=>
  BW (λx=>evk C inl b Ω v k<|mkS s.n s.pins c x) (evk C inl a (Ω ⊕ Lv c) u { nrm:=λs=>(rdS c s).bind λx=>I<|.inr x,ret:=λs=>(k.ret s).bind λo=>I<|.inl o,ext:=λj s=>(k.ext j s).bind λo=>I (.inl o) } s)
 | .seq a b,Ω,v,k,s=>evk C inl a Ω v.a { k with nrm:=evk C inl b Ω v.z k } s
 | .cond c x y,Ω,v,k,s=>match s.ev c with
  | .lit (.bool b)=>if b then evk C inl x Ω v.a k s else evk C inl y Ω v.z k s
  | _=>A0
 | .block id c,Ω,v,k,s=>evk C inl c Ω v.a { k with ext:=λj s=>match Al j id with
  | true=>k.nrm s
  | false=>k.ext j s } s
 | .loop _,_,.loop l,k,s=>(rdS l.sch s).bind λx=>AP (l.run x) (λy=>k.ret<|mkS s.n s.pins l.L4 y) λy=>k.ext l.xid (mkS s.n s.pins l.L5 y)
 | .exit id,_,_,k,s=>k.ext id s
 | .ret,_,_,k,s=>k.ret s
 | _,_,_,_,_=>A0
def RG(P:Program)(s:S):List ResultVar->Option (List AV)
 | []=>I []
 | .tmp t::l=>(RG P s l).bind λvs=>I<|s.T t::vs
 | .cell a t::l=>(KO P s.H t<|s.T a).bind λv=>(RG P s l).bind λvs=>I<|v::vs
def EC(i:Nat):List Sh->List Nat
 | []=>[]
 | h::ps=>match VL h with
  | true=>i::EC (i+1) ps
  | false=>EC (i+1) ps
def SJ(n:Nat)(ps:List Sh)(x:LTs ps):S:=match Ao (λ_=> .un) (λ_=>A0) 0 ps x with
 | (vs,H,b)=>{ n:=n,T:=λt=>(vs[t]?).getD Dx,H:=H,nid:=b,st:=[],pins:=EC 0 ps,gs:=λ_=>A3 }
def fin(P:Program)(fn:Func)(m:Dd)(s:S):Option (LTs m.rs×LTs (B6 m.ps)):=
 (RG P s fn.results.toList).bind λvs=>
 match Nf (Bp s.H (m.rs++B6 m.ps)<|vs++(EC 0 m.ps).map s.T)&&off (D5 s.H (m.rs++B6 m.ps)<|vs++(EC 0 m.ps).map s.T) (Bp s.H (m.rs++B6 m.ps)<|vs++(EC 0 m.ps).map s.T) with
 | true=>(GZ s.T s.H m.rs vs).bind λr=>(GZ s.T s.H (B6 m.ps)<|(EC 0 m.ps).map s.T).bind λq=>I (r,q)
 | false=>A0
def evF(C:Cx)(inl:(Ω:Type)->Inl Ω)(fn:Func)(body:Code)(v:Adv)(m:Dd)(x:LTs m.ps):Option (LTs m.rs×LTs (B6 m.ps)):=
 evk C inl body _ v { nrm:=fin C.P fn m,ret:=fin C.P fn m,ext:=λ_ _=>A0 } (SJ fn.ntmps m.ps x)
def cw(C:Cx)(inl:(Ω:Type)->Inl Ω)(fn:Func)(v:Adv)(m:Dd)(x:LTs m.ps):Option (LTs m.rs×LTs (B6 m.ps)):=
 match fn.body with
 | some b=>evF C inl fn b v m x
 | none=>A0
def Pt:List Nat->Code->Code
 | [],c=>c
 | 0::l,.seq a _=>Pt l a
 | 1::l,.seq _ b=>Pt l b
 | 0::l,.cond _ a _=>Pt l a
 | 1::l,.cond _ _ b=>Pt l b
 | 0::l,.block _ a=>Pt l a
 | 0::l,.loop a=>Pt l a
 | _::_,c=>c
def LZ(fn:Func):Code:=fn.body.getD .skip
def evL(C:Cx)(inl:(Ω:Type)->Inl Ω)(n:Nat)(p:List Nat)(c:Code)(v:Adv)(l:Loop)(x:Lv l.sch):Option (Lv l.sch ⊕ (Lv l.L4 ⊕ Lv l.L5)):=
 evk C inl c _ v { nrm:=λs=>(rdS l.sch s).bind λy=>I<|.inl y,ret:=λs=>(rdS l.L4 s).bind λy=>I<|.inr<|.inl y,ext:=λj s=>match Al j l.xid with
  | true=>(rdS l.L5 s).bind λy=>I<|.inr<|.inr y
  | false=>A0 } (mkS n p l.sch x)
def AI:(Ω:Type)->Inl Ω:=cC
def Q0:AV->AV
 | .gd _ _ _=> .un
 | v=>v
def plB:AV->Bool
 | .tup _=>A3
 | .gd _ _ _=>A3
 | _=>U
def O0(C:Cx):Nat->(Ω:Type)->Inl Ω
 | 0=>AI
 | n+1=>λΩ f d as s k=>match C.P.funcs[f]? with
  | none=>A0
  | some fn=>match fn.body,fn.name == "runtime.NumGoroutine" with
   | some body,A3=>
    let back:S->Option Ω:=λs'=>match s'.st,RG C.P s' fn.results.toList with
     | T::st,I vs=>match vs.all plB with
      | true=>k ({ s' with n:=s.n,T:=λt=>Q0<|T t,st:=st,pins:=s.pins,gs:=λ_=>A3 }.put d<|Mb vs)
      | false=>A0
     | _,_=>A0
    match Al as.length fn.params.size&&E9 as.length fn.ntmps&&as.all plB with
    | true=>evk C (O0 C n) body Ω .nil { nrm:=back,ret:=back,ext:=λ_ _=>A0 } { s with n:=fn.ntmps,T:=λt=>(as[t]?).getD Dx,st:=s.T::s.st,pins:=[],gs:=λ_=>A3 }
    | false=>A0
   | _,_=>A0
end Go.VS
end
