/- Part 2. -/
import Derived.Orders
import Derived.Test.YtplahhbealfpcaaGreatDoorQAA
open BitVec renaming ofInt->F1
open Bool renaming false->A3,true->A0
open Classical renaming choose->ND,choose_spec->Ig
open Decidable renaming decide->A1
open Go.Region renaming binds->FT
open List renaming replicate->BT
open Nat renaming beq->Ag,ble->Dp,blt->IA,land->P5,lor->BI,min->Et
open Option renaming none->U,some->I
open UInt8 renaming ofNat->Jy
set_option linter.all false
noncomputable section
namespace Go.VS
open Go
def upd{α:Type}(f:Nat->α)(i:Nat)(v:α):Nat->α:=λj=>match Ag j i with
 | true=>v
 | false=>f j
structure S where
 n:Nat
 T:Nat->AV
 H:Hp
 nid:Nat
 st:List (Nat->AV)
 pins:List Nat
 gs:Nat->Bool
def ZX:Value->Bool
 | .agg _=>A3
 | .tuple _=>A3
 | _=>A0
def ofV:Value->AV
 | .agg cs=>match cs.toList.all ZX with
  | true=> .agg (cs.toList.map .lit)
  | false=> .un
 | v=> .lit v
def S.ev(s:S):Operand->AV
 | .tmp t=>s.T t
 | .const v=>ofV v
 | _=> .un
def S.put(s:S)(d:Option Nat)(v:AV):S:=match d with
 | none=>s
 | some t=>{ s with T:=upd s.T t v }
def S.has(s:S)(d:Option Nat):Bool:=match d with
 | none=>A0
 | some t=>IA t s.n&& !(s.pins.any λp=>Ag p t)&& !(s.gs t)
def Ef(H:Hp)(b:Nat):List Ob->Hp
 | []=>H
 | o::os=>Ef (upd H b<|I o) (b+1) os
def Fo(f:AV->AV):AV->AV
 | .agg cs=> .agg (cs.map f)
 | v=>f v
def G5(f:AV->AV):AV->AV
 | .tup vs=> .tup (vs.map<|Fo f)
 | v=>Fo f v
def El(f:AV->AV):AV->AV
 | .gd g w v=> .gd g w (G5 f v)
 | v=>G5 f v
def CD(f:AV->AV):Option Ob->Option Ob
 | some (.box e cs)=>I (.box e<|cs.map f)
 | o=>o
def S.map(s:S)(f:AV->AV):S:=
 { s with T:=λt=>El f<|s.T t,H:=λj=>CD f<|s.H j,st:=s.st.map λT t=>El f (T t) }
def S.E9(s:S)(id:Nat)(o:Option Ob):S:={ s with H:=upd s.H id o }
def kl1(id:Nat):AV->AV
 | .own j=>match Ag j id with
  | true=> .un
  | false=> .own j
 | .ptr j z i o=>match Ag j id with
  | true=> .un
  | false=> .ptr j z i o
 | v=>v
def fz1(id:Nat)(k:K)(xs:List (Tof k)):AV->AV
 | .own j=>match Ag j id with
  | true=> .sl k xs
  | false=> .own j
 | .ptr j z i o=>match Ag j id with
  | true=> .un
  | false=> .ptr j z i o
 | v=>v
def S.kill(s:S)(id:Nat):S:=(s.map<|kl1 id).E9 id U
def S.freeze(s:S)(id:Nat):S:=match s.H id with
 | some (.row _ _ k xs)=>(s.map<|fz1 id k xs).E9 id U
 | _=>s.kill id
def L6(P:Program)(t:TypeId):Option Bool:=match P.underlying t with
 | some (.struct _)=>I A0
 | some (.array _ _)=>I A0
 | some _=>I A3
 | none=>U
def LY(P:Program)(t:TypeId)(f:Nat):Option Field:=match P.underlying t with
 | some (.struct fs)=>fs[f]?
 | _=>U
def GO:AV->Option (List AV)
 | .un=>U
 | .gd _ _ _=>U
 | .lit (.tuple _)=>U
 | .lit (.agg _)=>U
 | .tup _=>U
 | .arr _ _=>U
 | .agg cs=>I cs
 | v=>I [v]
def I0(P:Program)(t:TypeId):Option (List AV):=(P.info? t).bind λi=>i.zero.bind λz=>match z.cells.toList.all ZX with
 | true=>I (z.cells.toList.map .lit)
 | false=>U
def ZS:AV->AV->Bool
 | .lit (.int k n),.lit (.int k' m)=>A1 (k=k')&&A1 (n=m)
 | .lit (.bool a),.lit (.bool b)=>a == b
 | .lit (.string a),.lit (.string b)=>Ag a.size 0&&Ag b.size 0
 | .lit (.slice U 0 0),.sl _ []=>A0
 | _,_=>A3
def MC:List AV->List AV->Bool
 | [],[]=>A0
 | a::l,b::m=>ZS a b&&MC l m
 | _,_=>A3
def zok(P:Program)(t:TypeId)(k:K):Bool:=match I0 P t with
 | some zs=>MC zs (enc k<|dfl k)
 | none=>A3
def IP(P:Program)(t:TypeId):Option TypeId:=match P.underlying t with
 | some (.slice e)=>I e
 | _=>U
def inb(i:Int)(n:Nat):Bool:=A1 (0<=i)&&A1 (i<(n:Int))
def bt(s:A4)(i:Int):Int:=((s.data.toList.getD i.toNat 0).toNat:Int)
def rd{α:Type}(d:α)(xs:List α)(i:Int):α:=xs.getD i.toNat d
def BE(s:A4):List Int:=s.data.toList.map λb=>(b.toNat:Int)
def BF(xs:List Int):A4:=⟨(xs.map λn=>Jy n.toNat).toArray⟩
def Dn(k:IntKind)(a b:Int):Int:=k.wrap ((F1 k.bits a ^^^ F1 k.bits b).toNat:Int)
def abQ(k:IntKind)(a b:Int):Int:=k.wrap ((F1 k.bits a &&& F1 k.bits b).toNat:Int)
def ior(k:IntKind)(a b:Int):Int:=k.wrap ((F1 k.bits a ||| F1 k.bits b).toNat:Int)
def w64(n:Int):Int:=IntKind.i64.wrap n
def w8(n:Int):Int:=IntKind.u8.wrap n
def Ac(n:Nat):Bool:=A1<|n<=4294967296
abbrev PR:=Option<|Bool×AV×List Ob
def okA(v:AV):PR:=I (A0,v,[])
def okN:AV->PR
 | .gd _ _ _=>U
 | v=>okA v
def HF(P:Program)(t:TypeId)(cs:List AV)(o:Nat):Option AV:=match L6 P t with
 | some A0=>match Dp (o+P.cellsOf t) cs.length&&Dp 1 (P.cellsOf t) with
  | true=>I (.agg<|(cs.drop o).take<|P.cellsOf t)
  | false=>U
 | some A3=>cs[o]?
 | none=>U
def Jp(P:Program)(H:Hp)(t:TypeId):AV->Option AV
 | .ipt k x o=>HF P t (enc k x) o
 | .ptr id z i o=>match H id with
  | some (.box _ cs)=>match i with
   | 0=>HF P t cs o
   | _=>U
  | some (.row _ _ k xs)=>match Ag z (ks k) with
   | true=>HF P t (enc k<|xs.getD i<|dfl k) o
   | false=>U
  | some (.arr e k xs)=>match P.underlying t with
   | some (.array _ _)=>match Ag e t&&Dp 1 (P.cellsOf t),i,o with
    | true,0,0=>I (.arr k xs)
    | _,_,_=>U
   | _=>match Ag z (ks k) with
    | true=>HF P t (enc k<|xs.getD i<|dfl k) o
    | false=>U
  | none=>U
 | _=>U
def Ty(op:BinOp)(k:IntKind)(a b:Int):PR:=match op with
 | .add=>okA (.lit<|.int k<|k.wrap<|a+b)
 | .sub=>okA (.lit<|.int k<|k.wrap<|a - b)
 | .mul=>okA (.lit<|.int k<|k.wrap<|a * b)
 | .quo=>I (!decide (b=0),.lit<|.int k<|k.wrap<|a.tdiv b,[])
 | .rem=>I (!decide (b=0),.lit<|.int k<|a.tmod b,[])
 | .xor=>okA (.lit<|.int k<|Dn k a b)
 | .and=>okA (.lit<|.int k<|abQ k a b)
 | .or=>okA (.lit<|.int k<|ior k a b)
 | .eql=>okA (.b<|A1<|a=b)
 | .neq=>okA (.b<|!decide (a=b))
 | .lss=>okA (.b<|A1<|a<b)
 | .leq=>okA (.b<|A1<|a<=b)
 | .gtr=>okA (.b<|A1<|b<a)
 | .geq=>okA (.b<|A1<|b<=a)
 | _=>U
def Tx(op:BinOp)(a b:A4):PR:=match op with
 | .add=>I (A1<|a.size+b.size<=4611686018427387904,.s<|a++b,[])
 | .eql=>okA (.b<|A1<|a=b)
 | .neq=>okA (.b<|!decide (a=b))
 | _=>U
def eqC:List AV->List AV->Option Bool
 | [],[]=>I A0
 | .lit (.int k a)::l,.lit (.int k' b)::m=>match A1 (k=k') with
  | true=>(eqC l m).bind λr=>I<|A1 (a=b)&&r
  | false=>U
 | .lit (.bool a)::l,.lit (.bool b)::m=>(eqC l m).bind λr=>I<|A1 (a=b)&&r
 | .lit (.string a)::l,.lit (.string b)::m=>(eqC l m).bind λr=>I<|A1 (a=b)&&r
 | _,_=>U
def ZK(P:Program):Nat->List Field->List AV->Bool
 | _,[],_=>A0
 | n,f::fs,c::cs=>(match P.underlying f.type,c with
  | some .bool,.lit (.bool _)=>A0
  | some (.int _),.lit (.int _ _)=>A0
  | some .string,.lit (.string _)=>A0
  | _,_=>A3)&&Ag f.offset n&& !(f.name == "_")&&ZK P (n+1) fs cs
 | _,_,_=>A3
def mq(P:Program)(t:TypeId)(cs:List AV):Bool:=match P.underlying t with
 | some (.struct fs)=>ZK P 0 fs.toList cs&&Ag fs.size cs.length&& !P.stoodInHeld t&& !P.eqGuardType P.depth t
 | _=>A3
def PB(P:Program)(op:BinOp)(t:TypeId):AV->AV->PR
 | .lit (.int k a),.lit (.int k' b)=>match A1 (k=k') with
  | true=>Ty op k a b
  | false=>U
 | .lit (.string a),.lit (.string b)=>Tx op a b
 | .lit (.bool a),.lit (.bool b)=>match P.underlying t,op with
  | some .bool,.eql=>okA (.b<|A1<|a=b)
  | some .bool,.neq=>okA (.b<|!decide (a=b))
  | _,_=>U
 | .agg a,.agg b=>match mq P t a,Ag a.length b.length,eqC a b,op with
  | true,A0,I r,.eql=>okA (.b r)
  | true,A0,I r,.neq=>okA (.b<|!r)
  | _,_,_,_=>U
 | _,_=>U
def unA:UnOp->AV->PR
 | .not,.lit (.bool b)=>okA (.b<|!b)
 | .neg,.lit (.int k n)=>okA (.lit<|.int k<|k.wrap<|0 - n)
 | _,_=>U
def GP(g:Nat)(w:Bool):AV->AV
 | .gd g' w' v=>match Ag g g',w == w' with
  | true,A0=>v
  | _,_=> .gd g' w' v
 | v=>v
def QK(w:Bool)(v:AV):Operand->AV
 | .tmp g=>GP g w v
 | _=>v
def Kj:AV->Option Bool
 | .lit (.bool b)=>I b
 | _=>U
def On(ρ:Operand->AV)(c a b:Operand):PR:=match ρ c,a,b with
 | .lit (.bool q),.const (.bool A0),b=>match Kj (QK A3 (ρ b) c) with
  | some y=>okA (.b<|q||y)
  | none=>match q with
   | true=>okA (.b A0)
   | false=>okN (ρ b)
 | .lit (.bool q),a,.const (.bool A3)=>match Kj (QK A0 (ρ a) c) with
  | some x=>okA (.b<|q&&x)
  | none=>match q with
   | true=>okN (ρ a)
   | false=>okA (.b A3)
 | .lit (.bool q),a,b=>match q with
  | true=>okN (ρ a)
  | false=>okN (ρ b)
 | _,_,_=>U
def Hw(ρ:Operand->AV):Nat->List (Nat×Operand)->Option (List AV)
 | _,[]=>I []
 | n,(i,x)::l=>match Ag i n with
  | true=>(Hw ρ (n+1) l).bind λvs=>I<|ρ x::vs
  | false=>U
def Ms(k:K):List AV->Option (List<|Tof k)
 | []=>I []
 | v::l=>(GO v).bind λcs=>(dec (λ_=>U) k cs).bind λx=>(Ms k l).bind λxs=>I<|x::xs
def Gn(cs:List AV)(o:Nat)(ys:List AV):List AV:=cs.take o++ys++cs.drop (o+ys.length)
def Hz(P:Program)(ρ:Operand->AV)(t:TypeId):List (Nat×Operand)->List AV->Option (List AV)
 | [],cs=>I cs
 | (i,x)::l,cs=>(LY P t i).bind λf=>(GO<|ρ x).bind λys=>
  match Ag ys.length (P.cellsOf f.type)&&Dp (f.offset+ys.length) cs.length with
  | true=>Hz P ρ t l (Gn cs f.offset ys)
  | false=>U
def JF(lo hi:Option AV)(n:Nat):Option (Bool×Int×Int):=match lo,hi with
 | none,U=>I (A0,0,n)
 | some (.lit (.int _ l)),U=>I (A1 (0<=l)&&A1 (l<=(n:Int)),l,n)
 | none,I (.lit (.int _ h))=>I (A1 (0<=h)&&A1 (h<=(n:Int)),0,h)
 | some (.lit (.int _ l)),I (.lit (.int _ h))=>I ((A1 (0<=h)&&A1 (h<=(n:Int)))&&(A1 (0<=l)&&A1 (l<=h)),l,h)
 | _,_=>U
def Ia{α:Type}(lo hi:Option AV)(l h:Int)(xs:List α):List α:=match lo,hi with
 | none,U=>xs
 | some _,U=>xs.drop l.toNat
 | none,I _=>xs.take h.toNat
 | some _,I _=>(xs.take h.toNat).drop l.toNat
def Iv(P:Program)(H:Hp)(t:TypeId)(v:AV):Bool:=match P.underlying t,v with
 | some .string,.lit (.string _)=>A0
 | some (.slice e),.sl k _=>Ag (P.cellsOf e) (ks k)
 | some (.slice e),.lit (.slice _ _ _)=>Dp 1 (P.cellsOf e)
 | some (.slice e),.own id=>match H id with
  | some (.row _ _ k _)=>Ag (P.cellsOf e) (ks k)
  | _=>A3
 | _,_=>A3
def QL(lo hi:Option AV):AV->PR
 | .lit (.string s)=>(JF lo hi s.size).bind fun(c,l,h)=>I (c,.s<|s.extract l.toNat h.toNat,[])
 | .sl k xs=>(JF lo hi xs.length).bind fun(c,l,h)=>I (c,.sl k<|Ia lo hi l h xs,[])
 | .lit (.slice U 0 0)=>(JF lo hi 0).bind fun(c,_,_)=>I (c,.lit<|.slice U 0 0,[])
 | _=>U
def IX(P:Program)(src dst:TypeId)(b:AV):PR:=match P.underlying src,P.underlying dst,b with
 | some _,I (.int k),.lit (.int _ n)=>okA (.lit<|.int k<|k.wrap n)
 | some .string,I .string,.lit (.string s)=>okA (.s s)
 | some .string,I (.slice e),.lit (.string s)=>match P.underlying e with
  | some (.int .u8)=>I (Ac s.size,.own 0,[.row e A0 .u8 (BE s)])
  | _=>U
 | _,_,_=>U
def Qx(P:Program)(t:TypeId)(i:Int):AV->PR
 | .lit (.string s)=>match P.underlying t with
  | some .string=>I (inb i s.size,.y<|bt s i,[])
  | _=>U
 | .arr k xs=>match P.underlying t with
  | some (.array n e)=>match Ag (ks k) 1&&Ag (P.cellsOf e) 1,L6 P e with
   | true,I A3=>(HF P e (enc k<|rd (dfl k) xs i) 0).bind λv=>I (inb i xs.length&&inb i n,v,[])
   | _,_=>U
  | _=>U
 | _=>U
def Mq(P:Program)(H:Hp)(t:TypeId)(i:Int):AV->PR
 | .sl k xs=>match P.underlying t with
  | some (.slice e)=>match Ag (P.cellsOf e) (ks k) with
   | true=>I (inb i xs.length,.ipt k (rd (dfl k) xs i) 0,[])
   | false=>U
  | _=>U
 | .own id=>match P.underlying t,H id with
  | some (.slice e),I (.row _ _ k xs)=>match Ag (P.cellsOf e) (ks k) with
   | true=>I (inb i xs.length,.ptr id (ks k) i.toNat 0,[])
   | false=>U
  | _,_=>U
 | .ptr id z 0 0=>match P.underlying t,H id with
  | some (.array n e),I (.arr e' k xs)=>match Ag (P.cellsOf e) (ks k)&&Ag (P.cellsOf t) (n * ks k)&&Ag e' t with
   | true=>I (inb i xs.length,.ptr id (ks k) i.toNat 0,[])
   | false=>U
  | _,_=>U
 | _=>U
def J7(P:Program)(ρ:Operand->AV)(H:Hp)(c:Call):PR:=match c.callee,c.args.toList,c.argTypes.toList with
 | .builtin .len,[x],[t]=>match P.underlying t,ρ x with
  | some .string,.lit (.string s)=>okA (.i s.size)
  | some (.slice _),.sl _ xs=>okA (.i xs.length)
  | some (.slice _),.lit (.slice U 0 0)=>okA (.i 0)
  | some (.slice _),.own id=>match H id with
   | some (.row _ _ _ xs)=>okA (.i xs.length)
   | _=>U
  | some (.array n _),_=>okA (.i n)
  | _,_=>U
 | .builtin .min,[x,y],_=>match ρ x,ρ y with
  | .lit (.int k a),.lit (.int k' c)=>match A1 (k=k') with
   | true=>okA (.lit<|.int k<|if c<a then c else a)
   | false=>U
  | _,_=>U
 | .builtin .max,[x,y],_=>match ρ x,ρ y with
  | .lit (.int k a),.lit (.int k' c)=>match A1 (k=k') with
   | true=>okA (.lit<|.int k<|if a<c then c else a)
   | false=>U
  | _,_=>U
 | _,_,_=>U
def C5(P:Program)(kd:TypeId->Option K)(ρ:Operand->AV)(H:Hp)(b:Nat):Op->PR
 | .move x=>okN (ρ x)
 | .assign x=>okN (ρ x)
 | .pick c x y=>On ρ c x y
 | .alloc t=>match P.underlying t with
  | some (.array n e)=>(kd e).bind λk=>(I0 P t).bind λzs=>match MC zs ((BT n<|dfl k).flatMap<|enc k)&&Ag (P.cellsOf t) (n * ks k)&&Dp 1 n with
   | true=>I (A0,.ptr b (ks k) 0 0,[.arr t k (BT n<|dfl k)])
   | false=>U
  | _=>(I0 P t).bind λzs=>I (A0,.ptr b zs.length 0 0,[.box t zs])
 | .box t x=>(GO<|ρ x).bind λcs=>I (A0,.ptr b cs.length 0 0,[.box t cs])
 | .build t ps=>(I0 P t).bind λzs=>match P.underlying t with
  | some (.struct fs)=>match fs.toList.all λf=>(P.info? f.type).isSome with
   | true=>(Hz P ρ t ps.toList zs).bind λcs=>okA<|.agg cs
   | false=>U
  | _=>U
 | .buildSlice t len ps=>(IP P t).bind λe=>(kd e).bind λk=>(Hw ρ 0 ps.toList).bind λvs=>(Ms k vs).bind λxs=>
  match Ag vs.length len&&Ag (P.cellsOf e) (ks k)&&Dp len 65536&&zok P e k with
  | true=>I (A0,.own b,[.row e A3 k xs])
  | false=>U
 | .load t p=>(Jp P H t<|ρ p).bind okA
 | .nilCheck p=>match ρ p with
  | .ptr id z i o=>okA (.ptr id z i o)
  | .ipt k x o=>okA (.ipt k x o)
  | _=>U
 | .binOp op t x y _=>PB P op t (ρ x) (ρ y)
 | .unOp op _ x=>unA op (ρ x)
 | .convert src dst x=>match P.underlying src,P.underlying dst with
  | some (.slice e),I .string=>match P.underlying e with
   | some (.int .u8)=>(C7 H .u8<|ρ x).bind λxs=>okA<|.s<|BF xs
   | _=>U
  | _,_=>match IX P src dst (ρ x) with
   | some (c,.own _,os)=>I (c,.own b,os)
   | r=>r
 | .makeSlice t l c=>match ρ l,ρ c,(match l,c with
   | .tmp i,.tmp j=>Ag i j
   | _,_=>A3) with
  | .lit (.int .i64 n),_,A0=>(IP P t).bind λe=>(kd e).bind λk=>
   match zok P e k&&Ag (P.cellsOf e) (ks k)&&Dp (P.bytesOf e) 256 with
   | true=>I (A1 (0<=n)&&A1 (n<=4294967296),.own b,[.row e A3 k (BT n.toNat<|dfl k)])
   | false=>U
  | .lit (.int .i64 n),.lit (.int .i64 m),A3=>match A1 (n=m) with
   | true=>(IP P t).bind λe=>(kd e).bind λk=>
    match zok P e k&&Ag (P.cellsOf e) (ks k)&&Dp (P.bytesOf e) 256 with
    | true=>I (A1 (0<=n)&&A1 (n<=4294967296),.own b,[.row e A3 k (BT n.toNat<|dfl k)])
    | false=>U
   | false=>U
  | _,_,_=>U
 | .slice t x lo hi U=>match Iv P H t (ρ x) with
  | true=>QL (lo.map ρ) (hi.map ρ) (ρ x)
  | false=>U
 | .fieldAddr t x f=>(LY P t f).bind λfd=>match Dp 1 (P.cellsOf fd.type) with
  | true=>match ρ x with
   | .ptr id z i o=>okA (.ptr id z i<|o+fd.offset)
   | .ipt k v o=>okA (.ipt k v<|o+fd.offset)
   | _=>U
  | false=>U
 | .field t x f=>(LY P t f).bind λfd=>match ρ x with
  | .agg cs=>(HF P fd.type cs fd.offset).bind okA
  | _=>U
 | .indexAddr t x ix=>match ρ ix with
  | .lit (.int _ i)=>Mq P H t i (ρ x)
  | _=>U
 | .index t x ix=>match ρ ix with
  | .lit (.int _ i)=>Qx P t i (ρ x)
  | _=>U
 | .extract x i=>match ρ x with
  | .tup vs=>(vs[i]?).bind okA
  | _=>U
 | .call c=>J7 P ρ H c
 | _=>U
abbrev Dk:AV:= .lit undef
def Gq:AV->Option Nat
 | .own id=>I id
 | _=>U
def nop:AV->Bool
 | .lit (.pointer (I _))=>A3
 | .lit _=>A0
 | .sl _ _=>A0
 | .own _=>A0
 | _=>A3
def mr(o n:Nat)(cs:List AV):Bool:=Dp (o+n) cs.length&&(Dp 1 o||nop (cs.headD<|.lit<|.bool A3))
def IS(P:Program)(t:TypeId)(s:S):AV->AV->Option S
 | .ptr id z i o,x=>match s.H id with
  | some (.box e cs)=>match i with
   | 0=>(GO x).bind λys=>match Ag ys.length (P.cellsOf t)&&Dp 1 (P.cellsOf t)&&mr o ys.length cs with
    | true=>I (s.E9 id<|I<|.box e<|Gn cs o ys)
    | false=>U
   | _=>U
  | some (.row e fz k xs)=>(GO x).bind λys=>match Ag ys.length (P.cellsOf t)&&Dp 1 (P.cellsOf t)&&Dp (o+ys.length) (ks k)&&Ag z (ks k)&& !((ys.filterMap Gq).any λj=>Ag j id) with
   | true=>(dec s.H k<|Gn (enc k<|xs.getD i<|dfl k) o ys).bind λy=>
    I (((ys.filterMap Gq).foldl S.freeze s).E9 id<|I<|.row e fz k<|xs.set i y)
   | false=>U
  | some (.arr e k xs)=>(GO x).bind λys=>match Ag ys.length (P.cellsOf t)&&Dp 1 (P.cellsOf t)&&Dp (o+ys.length) (ks k)&&Ag z (ks k) with
   | true=>(dec (λ_=>U) k<|Gn (enc k<|xs.getD i<|dfl k) o ys).bind λy=>I<|s.E9 id<|I<|.arr e k<|xs.set i y
   | false=>U
  | none=>U
 | _,_=>U
def Js(H:Hp)(k:K):AV->Option (List<|Tof k)
 | .lit (.string s)=>match k with
  | .u8=>I (BE s)
  | _=>U
 | v=>C7 H k v
def KZ(P:Program)(kd:TypeId->Option K)(t t2:TypeId)(s:S)(b:Nat)(x y:AV):Option (Bool×AV×S):=
 (IP P t).bind λe=>(kd e).bind λk=>(Js s.H k y).bind λys=>
 match Ag (P.cellsOf e) (ks k)&&Dp (P.bytesOf e) 256&&zok P e k&&(match P.underlying t2 with
   | some .string=>A0
   | some (.slice _)=>A0
   | _=>A3),x with
 | true,.lit (.slice U 0 0)=>I (Ac ys.length,.own b,s.E9 b<|I<|.row e A3 k ys)
 | true,.own id=>match s.H id,(match y with
   | .own j=>Ag j id
   | _=>A3) with
  | some (.row e' A3 k' xs),A3=>match Ag e e' with
   | true=>(IY k' k xs).bind λxs=>I (Ac<|xs.length+ys.length,.own id,(s.map<|kl1 id).E9 id<|I<|.row e A3 k<|xs++ys)
   | false=>U
  | _,_=>U
 | _,_=>U
def Kk(P:Program)(t:TypeId)(s:S)(x y:AV):Option (AV×S):=match x with
 | .own id=>match s.H id,(match y with
   | .own j=>Ag j id
   | _=>A3) with
  | some (.row e fz k xs),A3=>(IP P t).bind λe'=>match Ag (P.cellsOf e') (ks k) with
   | true=>(Js s.H k y).bind λys=>I (.i (Et ys.length xs.length:Nat),s.E9 id<|I<|.row e fz k<|ys.take xs.length++xs.drop ys.length)
   | false=>U
  | _,_=>U
 | _=>U
def KT(s:S)(id:Nat)(z:Bool)(lo hi:Option AV):Option (Bool×AV×S):=match s.H id with
 | some (.row e fz k xs)=>(JF lo hi xs.length).bind fun(c,l,h)=>match z,hi with
  | true,U=>I (c,.own id,(s.map<|kl1 id).E9 id<|I<|.row e fz k<|Ia lo hi l h xs)
  | true,I _=>U
  | false,_=>I (c,.sl k<|Ia lo hi l h xs,s.freeze id)
 | _=>U
inductive Sh where
 | int (k:IntKind)
 | bool
 | str
 | sl (k:K)
 | row (e:TypeId) (k:K)
 | fz (k:K)
 | agg (l:List Sh)
 | CV (e:TypeId) (k:K)
 | abx (e:TypeId) (k:K)
 | arr (k:K)
 | same (t:Nat)
 | box (e:TypeId) (l:List Sh)
mutual
abbrev LT:Sh->Type
 | .int _=>Int
 | .bool=>Bool
 | .str=>A4
 | .sl k=>List (Tof k)
 | .row _ k=>List (Tof k)
 | .fz k=>List (Tof k)
 | .CV _ k=>List (Tof k)
 | .abx _ k=>List (Tof k)
 | .arr k=>List (Tof k)
 | .same _=>A2
 | .agg l=>LTs l
 | .box _ l=>LTs l
abbrev LTs:List Sh->Type
 | []=>A2
 | h::l=>LT h×LTs l
end
mutual
def Bl (E:Nat->AV) (H:Hp):(h:Sh)->AV->Option (LT h)
 | .int k,.lit (.int k' n)=>match A1 (k=k') with
  | true=>I n
  | false=>U
 | .bool,.lit (.bool b)=>I b
 | .str,.lit (.string s)=>I s
 | .sl k,.sl k' xs=>IY k' k xs
 | .sl _,.lit (.slice U 0 0)=>I []
 | .row _ _,.lit (.slice U 0 0)=>I []
 | .row e k,.own id=>match H id with
  | some (.row e' A3 k' xs)=>match Ag e e' with
   | true=>IY k' k xs
   | false=>U
  | _=>U
 | .fz k,v=>C7 H k v
 | .CV e k,.own id=>match H id with
  | some (.row e' A0 k' xs)=>match Ag e e' with
   | true=>IY k' k xs
   | false=>U
  | _=>U
 | .abx e k,.ptr id z 0 0=>match H id with
  | some (.arr e' k' xs)=>match Ag e e'&&Ag z (ks k) with
   | true=>IY k' k xs
   | false=>U
  | _=>U
 | .arr k,.arr k' xs=>IY k' k xs
 | .same t,.ptr id _ 0 0=>match E t with
  | .ptr id' _ 0 0=>match Ag id id' with
   | true=>I ()
   | false=>U
  | _=>U
 | .agg l,.agg cs=>G4 E H l cs
 | .box e l,.ptr id _ 0 0=>match H id with
  | some (.box e' cs)=>match Ag e e' with
   | true=>G4 E H l cs
   | false=>U
  | _=>U
 | _,_=>U
def G4 (E:Nat->AV) (H:Hp):(l:List Sh)->List AV->Option (LTs l)
 | [],[]=>I ()
 | h::l,c::cs=>(Bl E H h c).bind λx=>(G4 E H l cs).bind λxs=>I (x,xs)
 | _,_=>U
end
mutual
def CQ (H:Hp):Sh->AV->List Nat
 | .row _ _,.own id=>[id]
 | .CV _ _,.own id=>[id]
 | .abx _ _,.ptr id _ 0 0=>[id]
 | .agg l,.agg cs=>Bh H l cs
 | .box _ l,.ptr id _ 0 0=>match H id with
  | some (.box _ cs)=>Bh H l cs++[id]
  | _=>[]
 | _,_=>[]
def Bh (H:Hp):List Sh->List AV->List Nat
 | h::l,c::cs=>CQ H h c++Bh H l cs
 | _,_=>[]
end
mutual
def C6 (H:Hp):Sh->AV->List Nat
 | .row _ _,.own id=>[id]
 | .CV _ _,.own id=>[id]
 | .abx _ _,.ptr id _ 0 0=>[id]
 | .agg l,.agg cs=>CP H l cs
 | .box _ l,.ptr id _ 0 0=>match H id with
  | some (.box _ cs)=>CP H l cs
  | _=>[]
 | _,_=>[]
def CP (H:Hp):List Sh->List AV->List Nat
 | h::l,c::cs=>C6 H h c++CP H l cs
 | _,_=>[]
end
mutual
def Cf (H:Hp):Sh->AV->List Nat
 | .fz _,.own id=>[id]
 | .agg l,.agg cs=>Cp H l cs
 | .box _ l,.ptr id _ 0 0=>match H id with
  | some (.box _ cs)=>Cp H l cs
  | _=>[]
 | _,_=>[]
def Cp (H:Hp):List Sh->List AV->List Nat
 | h::l,c::cs=>Cf H h c++Cp H l cs
 | _,_=>[]
end
def N6:List Nat->Bool
 | []=>A0
 | a::l=> !(l.any λb=>Ag a b)&&N6 l
def off(l m:List Nat):Bool:=l.all λa=> !(m.any λb=>Ag a b)
mutual
def BD (E:Nat->AV) (H:Hp) (b:Nat):(h:Sh)->LT h->AV×Hp×Nat
 | .int k,n=>(.lit<|.int k n,H,b)
 | .bool,x=>(.b x,H,b)
 | .str,s=>(.s s,H,b)
 | .sl k,xs=>(.sl k xs,H,b)
 | .row e k,xs=>(.own b,upd H b<|I<|.row e A3 k xs,b+1)
 | .fz k,xs=>(.sl k xs,H,b)
 | .CV e k,xs=>(.own b,upd H b<|I<|.row e A0 k xs,b+1)
 | .abx e k,xs=>(.ptr b (ks k) 0 0,upd H b<|I<|.arr e k xs,b+1)
 | .arr k,xs=>(.arr k xs,H,b)
 | .same t,_=>(E t,H,b)
 | .agg l,x=>match Al E H b l x with
  | (cs,H,b)=>(.agg cs,H,b)
 | .box e l,x=>match Al E H b l x with
  | (cs,H,b)=>(.ptr b cs.length 0 0,upd H b<|I<|.box e cs,b+1)
def Al (E:Nat->AV) (H:Hp) (b:Nat):(l:List Sh)->LTs l->List AV×Hp×Nat
 | [],_=>([],H,b)
 | h::l,x=>match BD E H b h x.1 with
  | (c,H,b)=>match Al E H b l x.2 with
   | (cs,H,b)=>(c::cs,H,b)
end
mutual
def Ct (E:Nat->AV) (H:Hp) (b:Nat):(h:Sh)->AV->LT h->AV×Hp×Nat
 | .box e l,.ptr id z 0 0,x=>match H id with
  | some (.box _ cs)=>match BN E H b l cs x with
   | (ds,H,b)=>(.ptr id z 0 0,upd H id<|I<|.box e ds,b)
  | _=>(.un,H,b)
 | .same _,v,_=>(v,H,b)
 | h,_,x=>BD E H b h x
def BN (E:Nat->AV) (H:Hp) (b:Nat):(l:List Sh)->List AV->LTs l->List AV×Hp×Nat
 | [],_,_=>([],H,b)
 | h::l,cs,x=>match Ct E H b h (cs.headD .un) x.1 with
  | (d,H,b)=>match BN E H b l cs.tail x.2 with
   | (ds,H,b)=>(d::ds,H,b)
end
def Tp:Sh->Bool
 | .box _ _=>A0
 | _=>A3
abbrev B1:List Sh->List Sh
 | []=>[]
 | .box e l::ps=> .box e l::B1 ps
 | .int _::ps=>B1 ps
 | .bool::ps=>B1 ps
 | .str::ps=>B1 ps
 | .sl _::ps=>B1 ps
 | .row _ _::ps=>B1 ps
 | .fz _::ps=>B1 ps
 | .CV _ _::ps=>B1 ps
 | .abx _ _::ps=>B1 ps
 | .arr _::ps=>B1 ps
 | .same _::ps=>B1 ps
 | .agg _::ps=>B1 ps
def Fg:List Sh->List AV->List AV
 | .box _ _::ps,v::vs=>v::Fg ps vs
 | _::ps,_::vs=>Fg ps vs
 | _,_=>[]
def Qp:K->Bool
 | .half=>A3
 | .keep=>A3
 | .AQ=>A3
 | _=>A0
mutual
def MA:Sh->Bool
 | .sl _=>A0
 | .fz _=>A0
 | .row _ k=> !Qp k
 | .CV _ k=> !Qp k
 | .abx _ k=> !Qp k
 | .arr k=> !Qp k
 | .agg l=>CH l
 | .box _ l=>CH l
 | _=>A3
def CH:List Sh->Bool
 | []=>A3
 | h::l=>MA h||CH l
end
structure DU where
 ps:List Sh
 rs:List Sh
 g:LTs ps->Option (LTs rs×LTs (B1 ps))
def Ll:List AV->AV
 | [v]=>v
 | vs=> .tup vs
def G8(q:Bool)(ids:List Nat)(s:S):S:=match q with
 | true=>ids.foldl S.freeze s
 | false=>s
def HN{Ω:Type}(m:DU)(s:S)(b:Nat)(d:Option Nat)(as:List AV)(k:S->Option Ω):Option Ω:=
 let E:Nat->AV:=λi=>(as[i]?).getD .un
 match G4 E s.H m.ps as,N6 (Bh s.H m.ps as)&&off (Cp s.H m.ps as) (Bh s.H m.ps as) with
 | some x,A0=>(m.g x).bind λr=>
  let s1:=(CP s.H m.ps as).foldl S.kill s
  let s2:S:=G8 (CH m.rs||CH (B1 m.ps)) (Cp s.H m.ps as) s1
  match BN E s2.H b (B1 m.ps) (Fg m.ps as) r.2 with
  | (_,H,b1)=>match Al E H b1 m.rs r.1 with
   | (vs,H,b2)=>match Dp b2 (b+16) with
    | true=>k ({ s2 with H:=H }.put d<|Ll vs)
    | false=>U
 | _,_=>U
structure Cx where
 P:Program
 kd:TypeId->Option K
 Γ:Nat->Option Nat->Option DU
 cz:Nat->Bool
 sp:Nat->Bool
abbrev Inl(Ω:Type):=Nat->Option Nat->List AV->S->(S->Option Ω)->Option Ω
def Kc(ρ:Operand->AV)(ps:List (Nat×Operand)):List Nat:=ps.flatMap λp=>match ρ p.2 with
 | .agg cs=>cs.filterMap Gq
 | v=>(Gq v).toList
def CE{Ω:Type}(C:Cx)(inl:Inl Ω)(o:Oper)(b:Nat)(s:S)(k:S->Option Ω):Option Ω:=
 match s.has o.dst with
 | false=>U
 | true=>match o.op with
  | .store t p x=>match IS C.P t s (s.ev p) (s.ev x) with
   | some s=>k (s.put o.dst Dk)
   | none=>U
  | .call c=>match c.callee,c.args.toList,c.argTypes.toList with
   | .value (.func f),as,_=>match C.Γ f o.dst with
    | some m=>HN m s b o.dst (as.map s.ev) k
    | none=>inl f o.dst (as.map s.ev) s k
   | .builtin .append,[x,y],[t,u]=>match KZ C.P C.kd t u s b (s.ev x) (s.ev y) with
    | some (q,v,s)=>if q then k (s.put o.dst v) else U
    | none=>U
   | .builtin .copy,[x,y],[t,_]=>match Kk C.P t s (s.ev x) (s.ev y) with
    | some (v,s)=>k (s.put o.dst v)
    | none=>U
   | _,_,_=>match C5 C.P C.kd s.ev s.H b o.op with
    | some (q,v,os)=>if q then k ({ s with H:=Ef s.H b os }.put o.dst v) else U
    | none=>U
  | .slice t x lo hi U=>match s.ev x with
   | .own id=>match Iv C.P s.H t (.own id) with
    | false=>U
    | true=>match KT s id (match o.dst with
     | some d=>C.cz d
     | none=>A3) (lo.map s.ev) (hi.map s.ev) with
    | some (c,v,s)=>if c then k (s.put o.dst v) else U
    | none=>U
   | _=>match C5 C.P C.kd s.ev s.H b (.slice t x lo hi U) with
    | some (c,v,os)=>if c then k ({ s with H:=Ef s.H b os }.put o.dst v) else U
    | none=>U
  | .buildSlice t n ps=>
   let s:=(Kc s.ev ps.toList).foldl S.freeze s
   match C5 C.P C.kd s.ev s.H b (.buildSlice t n ps) with
   | some (c,v,os)=>if c then k ({ s with H:=Ef s.H b os }.put o.dst v) else U
   | none=>U
  | op=>match C5 C.P C.kd s.ev s.H b op with
   | some (c,v,os)=>if c then k ({ s with H:=Ef s.H b os }.put o.dst v) else U
   | none=>U
mutual
def G6:Sh->Bool
 | .int _=>A0
 | .bool=>A0
 | .str=>A0
 | .agg l=>N1 l
 | _=>A3
def N1:List Sh->Bool
 | []=>A0
 | h::l=>G6 h&&N1 l
end
mutual
def axX:(h:Sh)->LT h
 | .int _=>(0:Int)
 | .bool=>A3
 | .str=>noB
 | .sl _=>[]
 | .row _ _=>[]
 | .fz _=>[]
 | .CV _ _=>[]
 | .abx _ _=>[]
 | .arr _=>[]
 | .same _=>()
 | .agg l=>Lj l
 | .box _ l=>Lj l
def Lj:(l:List Sh)->LTs l
 | []=>()
 | h::l=>(axX h,Lj l)
end
def spA(C:Cx)(b:Nat)(d:Option Nat)(ρ:Operand->AV)(H:Hp):Op->Option (Bool×AV)
 | .call c=>match c.callee,c.args.toList,c.argTypes.toList with
  | .value (.func f),as,_=>(C.Γ f d).bind λm=>
   let E:Nat->AV:=λi=>((as.map ρ)[i]?).getD .un
   match N1 m.rs&&(B1 m.ps).isEmpty&&(CP H m.ps<|as.map ρ).isEmpty&&(Bh H m.ps<|as.map ρ).isEmpty with
   | true=>(G4 E H m.ps<|as.map ρ).bind λx=>I ((m.g x).isSome,Ll (Al E H b m.rs ((m.g x).getD (Lj m.rs,Lj<|B1 m.ps)).1).1)
   | false=>U
  | .builtin .append,_,_=>U
  | .builtin .copy,_,_=>U
  | _,_,_=>match J7 C.P ρ H c with
   | some (q,v,[])=>I (q,v)
   | _=>U
 | .store _ _ _=>U
 | .buildSlice _ _ _=>U
 | .slice t x lo hi U=>match ρ x with
  | .own _=>U
  | _=>match C5 C.P C.kd ρ H b (.slice t x lo hi U) with
   | some (q,v,[])=>I (q,v)
   | _=>U
 | op=>match C5 C.P C.kd ρ H b op with
  | some (q,v,[])=>I (q,v)
  | _=>U
def eqW(c want:Bool):Bool:=match want with
 | true=>c
 | false=> !c
def Ak(c q:Bool):Bool:=match q with
 | true=>A0
 | false=> !c
def Lu(ops:Array Oper)(s:S):Nat->Oper->Option Bool
 | 0,_=>U
 | n+1,o=>match o.guard with
  | none=>I A0
  | some (j,want)=>(ops[j]?).bind λoj=>oj.dst.bind λg=>match s.T g with
   | .lit (.bool c)=>I (eqW c want)
   | .lit (.tuple _)=>I A3
   | .gd g' w' (.lit (.bool c))=>match oj.guard with
    | some (j',w2)=>match (ops[j']?).bind (·.dst) with
     | some g2=>match Ag g' g2,w' == w2 with
      | true,A0=>(Lu ops s n oj).bind λb=>I<|b&&eqW c want
      | _,_=>U
     | none=>U
    | none=>U
   | _=>U
def abS(c:Option Bool)(q:Bool):Bool:=match c with
 | some c=>Ak c q
 | none=>q
def nG:AV->Bool
 | .gd _ _ _=>A3
 | _=>A0
def S.narrow(s:S)(g:Nat)(w:Bool):S:={ s with T:=upd (λt=>GP g w<|s.T t) g (.b w) }
def evG{Ω:Type}(C:Cx)(inl:Inl Ω)(ops:Array Oper)(o:Oper)(b:Nat)(s:S)(k:S->Option Ω):Option Ω:=
 match o.guard with
 | none=>CE C inl o b s k
 | some (j,want)=>match (ops[j]?).bind (·.dst),(match o.dst with
   | some d=>C.sp d
   | none=>A3) with
  | none,_=>U
  | some g,A0=>match { s with gs:=upd s.gs g A0 }.has o.dst,spA C b o.dst (s.narrow g want).ev s.H o.op with
   | true,I (q,v)=>match nG v with
    | true=>if abS (Lu ops s 4 o) q then k { s.put o.dst (.gd g want v) with gs:=upd s.gs g A0 } else U
    | false=>U
   | _,_=>U
  | some g,A3=>match s.T g with
   | .lit (.bool c)=>
    let yes:Option Ω:=CE C inl o b { s with T:=upd s.T g (.b want) } k
    let no:Option Ω:=match s.has o.dst with
     | true=>k ({ s with T:=upd s.T g (.b<|!want) }.put o.dst Dk)
     | false=>U
    match want with
    | true=>if c then yes else no
    | false=>if c then no else yes
   | .lit (.tuple _)=>match s.has o.dst with
    | true=>k (s.put o.dst Dk)
    | false=>U
   | _=>U
def Ot{Ω:Type}(C:Cx)(inl:Inl Ω)(ops:Array Oper):List Oper->S->(S->Option Ω)->Option Ω
 | [],s,k=>k s
 | o::l,s,k=>evG C inl ops o s.nid s λs=>Ot C inl ops l { s with nid:=s.nid+16 } k
def Yx(Ω:Type):Inl Ω:=λ_ _ _ _ _=>U
mutual
def Df:Sh->Bool
 | .agg _=>A3
 | .same _=>A3
 | .arr _=>A3
 | .box _ l=>Hr l
 | _=>A0
def Hr:List Sh->Bool
 | []=>A0
 | h::l=>Df h&&Hr l
end
def abJ:Sh->Bool
 | .agg l=>Hr l
 | .arr _=>A0
 | h=>Df h
def ZA:List Sh->Bool
 | []=>A0
 | h::l=>abJ h&&ZA l
def okS(m:DU):Bool:=ZA m.rs&&Hr (B1 m.ps)
def Od(H:Hp)(x y:AV):List Nat:=match x with
 | .ptr id _ _ _=>match H id with
  | some (.row _ _ _ _)=>id::((GO y).getD []).filterMap Gq
  | _=>[id]
 | _=>[]
def fzl(q:Bool)(l:List Nat):List Nat:=match q with
 | true=>l
 | false=>[]
def Jt(v:AV):List Nat:=(Gq v).toList
def Dt(C:Cx)(s:S)(o:Oper):Option (List Nat):=match o.op with
 | .store _ p x=>I (Od s.H (s.ev p)<|s.ev x)
 | .call c=>match c.callee,c.args.toList with
  | .value (.func f),as=>match C.Γ f o.dst with
   | some m=>match (B1 m.ps).isEmpty with
    | true=>I (CP s.H m.ps (as.map s.ev)++fzl (CH m.rs||CH (B1 m.ps)) (Cp s.H m.ps<|as.map s.ev))
    | false=>U
   | none=>U
  | .builtin .append,x::_=>I (Jt<|s.ev x)
  | .builtin .copy,x::_=>I (Jt<|s.ev x)
  | _,_=>I []
 | .slice _ x _ _ U=>I (Jt<|s.ev x)
 | .buildSlice _ _ ps=>I (Kc s.ev ps.toList)
 | _=>I []
def JD(C:Cx)(s:S)(o:Oper):List Nat:=match o.op with
 | .call c=>match c.callee,c.args.toList with
  | .value (.func f),as=>match C.Γ f o.dst with
   | some m=>CP s.H m.ps (as.map s.ev)++fzl (CH m.rs||CH (B1 m.ps)) (Cp s.H m.ps<|as.map s.ev)
   | none=>[]
  | _,_=>[]
 | _=>[]
def okO(C:Cx)(o:Oper):Bool:=match o.op with
 | .call c=>match c.callee with
  | .value (.func f)=>match C.Γ f o.dst with
   | some m=>okS m
   | none=>A3
  | _=>A0
 | _=>A0
mutual
def IW:Sh->Bool
 | .agg _=>A3
 | .arr _=>A3
 | .box _ l=>Mt l
 | _=>A0
def Mt:List Sh->Bool
 | []=>A0
 | h::l=>IW h&&Mt l
end
def mz:Sh->Bool
 | .agg l=>Mt l
 | .arr _=>A0
 | h=>IW h
def Jm:List Sh->Bool
 | []=>A0
 | h::l=>mz h&&Jm l
def NV:AV->Option (List Nat)
 | .own id=>I [id]
 | .ptr id _ _ _=>I [id]
 | .agg _=>U
 | .tup _=>U
 | .gd _ _ _=>U
 | _=>I []
def ZU:List AV->Option (List Nat)
 | []=>I []
 | c::cs=>(NV c).bind λa=>(ZU cs).bind λb=>I<|a++b
def NU:AV->Option (List Nat)
 | .agg cs=>ZU cs
 | v=>NV v
def nC:List AV->Option (List Nat)
 | []=>I []
 | c::cs=>(NU c).bind λa=>(nC cs).bind λb=>I<|a++b
def ZV:AV->Option (List Nat)
 | .tup vs=>nC vs
 | v=>NU v
def Tv:AV->Option (List Nat)
 | .gd _ _ v=>ZV v
 | v=>ZV v
def bit(i:Nat):Nat:=Nat.shiftLeft 1 i
def msk:List Nat->Nat
 | []=>0
 | i::l=>BI (bit i) (msk l)
def nm(b:Nat):Nat:=Nat.shiftLeft 65535 b
def dsj(a b:Nat):Bool:=Ag (P5 a b) 0
def sbs(a b:Nat):Bool:=Ag (P5 a b) a
def tst(a i:Nat):Bool:= !(dsj a<|bit i)
def aaw(H:Hp)(id:Nat):Option (List Nat):=match H id with
 | some (.box _ cs)=>ZU cs
 | _=>I []
def ZH(H:Hp):List Nat->Option (List Nat)
 | []=>I []
 | i::l=>(aaw H i).bind λa=>(ZH H l).bind λb=>I<|a++b
def clo(H:Hp):Nat->List Nat->Option Nat
 | 0,[]=>I 0
 | 0,_::_=>U
 | n+1,l=>match l with
  | []=>I 0
  | i::l=>(ZH H<|i::l).bind λm=>(clo H n m).bind λr=>I<|BI (msk<|i::l) r
def Yt(ops:Array Oper):Nat->Oper->List Nat
 | 0,_=>[]
 | n+1,o=>match o.guard with
  | none=>[]
  | some (j,_)=>match ops[j]? with
   | some oj=>oj.dst.toList++Yt ops n oj
   | none=>[]
abbrev DB(ops:Array Oper)(o:Oper):List Nat:=o.looksAt ops++Yt ops 4 o
def mov:Op->Bool
 | .move _=>A0
 | .assign _=>A0
 | .nilCheck _=>A0
 | .binOp _ _ _ _ _=>A0
 | .unOp _ _ _=>A0
 | .fieldAddr _ _ _=>A0
 | .field _ _ _=>A0
 | .extract _ _=>A0
 | .index _ _ _=>A0
 | .build _ _=>A0
 | _=>A3
def pur(o:Oper):Bool:=match o.op with
 | .store _ _ _=>A3
 | .call _=>A3
 | .slice _ _ _ _ _=>A3
 | .buildSlice _ _ _=>A3
 | _=>A0
structure Rec where
 i:Nat
 b:Nat
 F:Nat
 N:Nat
 W:Nat
 K:Nat
 anc:Nat
 V:List Nat
 o:Oper
def HI(i:Nat):List Rec->Option Rec
 | []=>U
 | r::l=>match Ag r.i i with
  | true=>I r
  | false=>HI i l
def Qm(acc:List Rec):List Edge->Option Nat
 | []=>I 0
 | e::l=>match FT .any e with
  | true=>(HI e.on acc).bind λr=>(Qm acc l).bind λm=>I<|BI (BI (bit e.on) r.anc) m
  | false=>Qm acc l
def mh(t:Nat):Option Nat->Bool
 | some d=>Ag d t
 | none=>A3
def abL(t:Nat)(l:List Nat):Bool:=l.any λx=>Ag x t
def PL(d:Option Nat)(l:List Nat):Bool:=match d with
 | some t=> !(abL t l)
 | none=>A0
def mv(d e:Option Nat):Bool:=match d,e with
 | some a,I b=> !(Ag a b)
 | _,_=>A0
def Qq(t:Nat):List Rec->Option Rec
 | []=>U
 | r::l=>match mh t r.o.dst with
  | true=>I r
  | false=>Qq t l
def ZJ(s0:S)(acc:List Rec):List Nat->Option (List Nat)
 | []=>I []
 | t::l=>(match Qq t acc with
  | some r=>I r.V
  | none=>Tv (s0.T t)).bind λa=>(ZJ s0 acc l).bind λb=>I<|a++b
def mvO(o:Oper):Bool:=mov o.op&&pur o&&o.guard.isNone
def Om(anc:Nat):List Rec->Nat->Nat
 | [],F=>F
 | r::l,F=>Om anc l (match tst anc r.i&& !(dsj r.W F)&& !(mvO r.o) with
  | true=>BI r.F F
  | false=>F)
def ab9(C:Cx)(ops:Array Oper)(s0:S)(o:Oper)(i b:Nat)(acc:List Rec)(s:S):Option Rec:=
 (Qm acc o.after.toList).bind λanc=>(ZJ s0 acc<|DB ops o).bind λl=>(clo s0.H 4 l).bind λc=>
 let F:=match mvO o with
  | true=>BI (msk l) (nm b)
  | false=>Om anc acc (BI c<|nm b)
 let W:=match Dt C s o with
  | none=>F
  | some l=>BI (msk l) (nm b)
 let K:=match Dt C s o with
  | none=>BI (msk<|JD C s o) (nm b)
  | some l=>BI (msk l) (nm b)
 let N:=match mvO o with
  | true=>nm b
  | false=>match pur o,o.guard with
   | true,U=>BI (msk l) (nm b)
   | _,_=>F
 match sbs W F with
 | true=>I { i:=i,b:=b,F:=F,N:=N,W:=W,K:=K,anc:=anc,V:=[],o:=o }
 | false=>U
def axi:Op->Bool
 | .load _ _=>A0
 | _=>A3
def abO(C:Cx)(ops:Array Oper)(s:S):Nat->Nat->AV
 | 0,t=>s.T t
 | n+1,t=>match ops.toList.find? (λo=>mh t o.dst) with
  | none=>s.T t
  | some o=>match mov o.op||axi o.op with
   | true=>(match C5 C.P C.kd (λx=>match x with
     | .tmp t=>abO C ops s n t
     | x=>s.ev x) s.H s.nid o.op with
    | some (_,v,_)=>v
    | none=> .un)
   | false=> .un
def axc(o:Oper):Option Nat:=match o.op with
 | .slice _ (.tmp x) _ _ U=>I x
 | _=>U
def nD:List Nat->List Nat
 | []=>[]
 | i::l=>match l.any (Ag i) with
  | true=>i::nD l
  | false=>nD l
def Qv(C:Cx)(ops:Array Oper)(s:S):List Nat:=match ops.toList.filterMap axc with
 | []=>[]
 | [_]=>[]
 | xs=>nD (xs.filterMap λx=>Gq<|abO C ops s 4 x)
def chk(ops:Array Oper)(x r:Rec):Bool:=
 mv x.o.dst r.o.dst&&match tst r.anc x.i with
  | true=>(dsj x.W r.N||sbs x.F r.F)&&(PL x.o.dst (DB ops r.o)||(sbs (msk x.V) r.F&&(mov r.o.op||sbs (msk x.V) r.N)))&&dsj x.F (nm r.b)
  | false=>(dsj x.K r.F&&dsj r.K x.F)&&(dsj x.W r.N&&dsj r.W x.N)&&(dsj x.W r.W&&(dsj x.F (nm r.b)&&dsj r.F (nm x.b)))&&PL x.o.dst (DB ops r.o)&&PL r.o.dst (DB ops x.o)
def vOf(s:S):Option Nat->Option (List Nat)
 | none=>I []
 | some t=>Tv (s.T t)
def evD{Ω:Type}(C:Cx)(ops:Array Oper)(s0:S):List Oper->Nat->Nat->List Rec->S->(S->Option Ω)->Option Ω
 | [],_,b,_,s,k=>k { s with nid:=b }
 | o::l,i,b,acc,s,k=>match ab9 C ops s0 o i b acc s with
  | none=>U
  | some r=>match acc.all (λx=>chk ops x r)&&okO C o&&PL o.dst (DB ops o) with
   | true=>evG C (Yx Ω) ops o b s λs'=>(vOf s' o.dst).bind λV=>evD C ops s0 l (i+1) (b+16) ({ r with V:=V } ::acc) s' k
   | false=>U
abbrev Sch:=List<|Nat×Sh
abbrev Lv(c:Sch):Type:=LTs (c.map (·.2))
def mJ(H:Hp)(T:Nat->AV):(c:Sch)->Option (Lv c)
 | []=>I ()
 | (t,h)::c=>(Bl T H h<|T t).bind λx=>(mJ H T c).bind λxs=>I (x,xs)
def OY(H:Hp)(T:Nat->AV):Sch->List Nat
 | []=>[]
 | (t,h)::c=>CQ H h (T t)++OY H T c
def lm(H:Hp)(T:Nat->AV):Sch->List Nat
 | []=>[]
 | (t,h)::c=>Cf H h (T t)++lm H T c
def Mw(T:Nat->AV)(H:Hp)(b:Nat):(c:Sch)->Lv c->(Nat->AV)×Hp×Nat
 | [],_=>(T,H,b)
 | (t,h)::c,x=>match BD T H b h x.1 with
  | (v,H,b)=>Mw (upd T t v) H b c x.2
def mkS(n:Nat)(p:List Nat)(c:Sch)(x:Lv c):S:=match Mw (λ_=> .un) (λ_=>U) 0 c x with
 | (T,H,b)=>{ n:=n,T:=T,H:=H,nid:=b,st:=[],pins:=p,gs:=λ_=>A3 }
def ab7(n:Nat)(c:Sch):Bool:=N6 (c.map (·.1))&&Jm (c.map (·.2))&&c.all λx=>IA x.1 n
def rdS(c:Sch)(s:S):Option (Lv c):=match s.st,N6 (OY s.H s.T c)&&off (lm s.H s.T c) (OY s.H s.T c),ab7 s.n c with
 | [],A0,A0=>mJ s.H s.T c
 | _,_,_=>U
structure Loop where
 sch:Sch
 K6:Sch
 xid:Nat
 KB:Sch
 run:Lv sch->Option (Lv KB ⊕ Lv K6)
inductive Adv where
 | nil
 | one (a:Adv)
 | two (a b:Adv)
 | join (c:Sch) (a b:Adv)
 | loop (l:Loop)
def Adv.a:Adv->Adv
 | .one a=>a
 | .two a _=>a
 | .join _ a _=>a
 | _=> .nil
def Adv.z:Adv->Adv
 | .two _ b=>b
 | .join _ _ b=>b
 | _=> .nil
structure Kt (Ω:Type) where
 nrm:S->Option Ω
 ret:S->Option Ω
 ext:Nat->S->Option Ω
def BS{Ω X:Type}(f:X->Option Ω)(m:Option (Ω ⊕ X)):Option Ω:=m.bind λr=>match r with
 | .inl o=>I o
 | .inr x=>f x
def AM{A D Ω:Type}(m:Option (A ⊕ D))(f:A->Option Ω)(g:D->Option Ω):Option Ω:=m.bind λr=>match r with
 | .inl a=>f a
 | .inr b=>g b
def HJ{X Y:Type}(b:X->Option (X ⊕ Y)):Nat->X->Option Y
 | 0,_=>U
 | n+1,x=>(b x).bind λr=>match r with
  | .inl y=>HJ b n y
  | .inr z=>I z
open Classical in
def AR {X Y:Type} (b:X->Option (X ⊕ Y)) (x:X):Option Y:=
 if h:∃n y,HJ b n x=I y then I (ND<|Ig h) else U
def evk(C:Cx)(inl:(Ω:Type)->Inl Ω):Code->(Ω:Type)->Adv->Kt Ω->S->Option Ω
 | .skip,_,_,k,s=>k.nrm s
 | .region _ ops A3,Ω,_,k,s=>Ot C (inl Ω) ops ops.toList s k.nrm
 | .region _ ops A0,_,_,k,s=>evD C ops ((Qv C ops s).foldl S.freeze s) ops.toList 0 s.nid [] ((Qv C ops s).foldl S.freeze s) k.nrm
 | .seq a b,Ω,.join c u v,k,s=>
  BS (λx=>evk C inl b Ω v k<|mkS s.n s.pins c x) (evk C inl a (Ω ⊕ Lv c) u { nrm:=λs=>(rdS c s).bind λx=>I<|.inr x,ret:=λs=>(k.ret s).bind λo=>I<|.inl o,ext:=λj s=>(k.ext j s).bind λo=>I (.inl o) } s)
 | .seq a b,Ω,v,k,s=>evk C inl a Ω v.a { k with nrm:=evk C inl b Ω v.z k } s
 | .cond c x y,Ω,v,k,s=>match s.ev c with
  | .lit (.bool b)=>if b then evk C inl x Ω v.a k s else evk C inl y Ω v.z k s
  | _=>U
 | .block id c,Ω,v,k,s=>evk C inl c Ω v.a { k with ext:=λj s=>match Ag j id with
  | true=>k.nrm s
  | false=>k.ext j s } s
 | .loop _,_,.loop l,k,s=>(rdS l.sch s).bind λx=>AM (l.run x) (λy=>k.ret<|mkS s.n s.pins l.KB y) λy=>k.ext l.xid (mkS s.n s.pins l.K6 y)
 | .exit id,_,_,k,s=>k.ext id s
 | .ret,_,_,k,s=>k.ret s
 | _,_,_,_,_=>U
def QG(P:Program)(s:S):List ResultVar->Option (List AV)
 | []=>I []
 | .tmp t::l=>(QG P s l).bind λvs=>I<|s.T t::vs
 | .cell a t::l=>(Jp P s.H t<|s.T a).bind λv=>(QG P s l).bind λvs=>I<|v::vs
def Dr(i:Nat):List Sh->List Nat
 | []=>[]
 | h::ps=>match Tp h with
  | true=>i::Dr (i+1) ps
  | false=>Dr (i+1) ps
def R4(n:Nat)(ps:List Sh)(x:LTs ps):S:=match Al (λ_=> .un) (λ_=>U) 0 ps x with
 | (vs,H,b)=>{ n:=n,T:=λt=>(vs[t]?).getD Dk,H:=H,nid:=b,st:=[],pins:=Dr 0 ps,gs:=λ_=>A3 }
def fin(P:Program)(fn:Func)(m:DU)(s:S):Option (LTs m.rs×LTs (B1 m.ps)):=
 (QG P s fn.results.toList).bind λvs=>
 match N6 (Bh s.H (m.rs++B1 m.ps)<|vs++(Dr 0 m.ps).map s.T)&&off (Cp s.H (m.rs++B1 m.ps)<|vs++(Dr 0 m.ps).map s.T) (Bh s.H (m.rs++B1 m.ps)<|vs++(Dr 0 m.ps).map s.T) with
 | true=>(G4 s.T s.H m.rs vs).bind λr=>(G4 s.T s.H (B1 m.ps)<|(Dr 0 m.ps).map s.T).bind λq=>I (r,q)
 | false=>U
def evF(C:Cx)(inl:(Ω:Type)->Inl Ω)(fn:Func)(body:Code)(v:Adv)(m:DU)(x:LTs m.ps):Option (LTs m.rs×LTs (B1 m.ps)):=
 evk C inl body _ v { nrm:=fin C.P fn m,ret:=fin C.P fn m,ext:=λ_ _=>U } (R4 fn.ntmps m.ps x)
def ZT(C:Cx)(inl:(Ω:Type)->Inl Ω)(fn:Func)(v:Adv)(m:DU)(x:LTs m.ps):Option (LTs m.rs×LTs (B1 m.ps)):=
 match fn.body with
 | some b=>evF C inl fn b v m x
 | none=>U
def PD:List Nat->Code->Code
 | [],c=>c
 | 0::l,.seq a _=>PD l a
 | 1::l,.seq _ b=>PD l b
 | 0::l,.cond _ a _=>PD l a
 | 1::l,.cond _ _ b=>PD l b
 | 0::l,.block _ a=>PD l a
 | 0::l,.loop a=>PD l a
 | _::_,c=>c
def Ke(fn:Func):Code:=fn.body.getD .skip
def evL(C:Cx)(inl:(Ω:Type)->Inl Ω)(n:Nat)(p:List Nat)(c:Code)(v:Adv)(l:Loop)(x:Lv l.sch):Option (Lv l.sch ⊕ (Lv l.KB ⊕ Lv l.K6)):=
 evk C inl c _ v { nrm:=λs=>(rdS l.sch s).bind λy=>I<|.inl y,ret:=λs=>(rdS l.KB s).bind λy=>I<|.inr<|.inl y,ext:=λj s=>match Ag j l.xid with
  | true=>(rdS l.K6 s).bind λy=>I<|.inr<|.inr y
  | false=>U } (mkS n p l.sch x)
def AF:(Ω:Type)->Inl Ω:=Yx
def PG:AV->AV
 | .gd _ _ _=> .un
 | v=>v
def plB:AV->Bool
 | .tup _=>A3
 | .gd _ _ _=>A3
 | _=>A0
def NT(C:Cx):Nat->(Ω:Type)->Inl Ω
 | 0=>AF
 | n+1=>λΩ f d as s k=>match C.P.funcs[f]? with
  | none=>U
  | some fn=>match fn.body,fn.name == "runtime.NumGoroutine" with
   | some body,A3=>
    let back:S->Option Ω:=λs'=>match s'.st,QG C.P s' fn.results.toList with
     | T::st,I vs=>match vs.all plB with
      | true=>k ({ s' with n:=s.n,T:=λt=>PG<|T t,st:=st,pins:=s.pins,gs:=λ_=>A3 }.put d<|Ll vs)
      | false=>U
     | _,_=>U
    match Ag as.length fn.params.size&&Dp as.length fn.ntmps&&as.all plB with
    | true=>evk C (NT C n) body Ω .nil { nrm:=back,ret:=back,ext:=λ_ _=>U } { s with n:=fn.ntmps,T:=λt=>(as[t]?).getD Dk,st:=s.T::s.st,pins:=[],gs:=λ_=>A3 }
    | false=>U
   | _,_=>U
end Go.VS
end
