/- Part 2. -/
import Derived.Orders
import Derived.Test.YtadnafhbeojhoaaGreatDoorQAA
open BitVec renaming ofInt->FE
open Bool renaming false->A3,true->A1
open Classical renaming choose->NT,choose_spec->It
open Decidable renaming decide->A0
open Go.Region renaming binds->Fq
open List renaming replicate->BW
open Nat renaming beq->Aj,ble->E0,blt->I9,land->Oz,lor->BO,min->Ex
open Option renaming none->U,some->I
open UInt8 renaming ofNat->KF
set_option linter.all false
noncomputable section
namespace Go.VS
open Go
def upd{α:Type}(f:Nat->α)(i:Nat)(v:α):Nat->α:=λj=>match Aj j i with
 | true=>v
 | false=>f j
structure S where
 n:Nat
 T:Nat->AV
 H:Hp
 nid:Nat
 st:List (Nat->AV)
 pins:List Nat
 gs:Nat->Bool
def Xq:Value->Bool
 | .agg _=>A3
 | .tuple _=>A3
 | _=>A1
def ofV:Value->AV
 | .agg cs=>match cs.toList.all Xq with
  | true=> .agg (cs.toList.map .lit)
  | false=> .un
 | v=> .lit v
def S.ev(s:S):Operand->AV
 | .tmp t=>s.T t
 | .const v=>ofV v
 | _=> .un
def S.put(s:S)(d:Option Nat)(v:AV):S:=match d with
 | none=>s
 | some t=>{ s with T:=upd s.T t v }
def S.has(s:S)(d:Option Nat):Bool:=match d with
 | none=>A1
 | some t=>I9 t s.n&& !(s.pins.any λp=>Aj p t)&& !(s.gs t)
def Ei(H:Hp)(b:Nat):List Ob->Hp
 | []=>H
 | o::os=>Ei (upd H b<|I o) (b+1) os
def Ft(f:AV->AV):AV->AV
 | .agg cs=> .agg (cs.map f)
 | v=>f v
def GA(f:AV->AV):AV->AV
 | .tup vs=> .tup (vs.map<|Ft f)
 | v=>Ft f v
def En(f:AV->AV):AV->AV
 | .gd g w v=> .gd g w (GA f v)
 | v=>GA f v
def CJ(f:AV->AV):Option Ob->Option Ob
 | some (.box e cs)=>I (.box e<|cs.map f)
 | o=>o
def S.map(s:S)(f:AV->AV):S:=
 { s with T:=λt=>En f<|s.T t,H:=λj=>CJ f<|s.H j,st:=s.st.map λT t=>En f (T t) }
def S.ES(s:S)(id:Nat)(o:Option Ob):S:={ s with H:=upd s.H id o }
def kl1(id:Nat):AV->AV
 | .own j=>match Aj j id with
  | true=> .un
  | false=> .own j
 | .ptr j z i o=>match Aj j id with
  | true=> .un
  | false=> .ptr j z i o
 | v=>v
def fz1(id:Nat)(k:K)(xs:List (Tof k)):AV->AV
 | .own j=>match Aj j id with
  | true=> .sl k xs
  | false=> .own j
 | .ptr j z i o=>match Aj j id with
  | true=> .un
  | false=> .ptr j z i o
 | v=>v
def S.kill(s:S)(id:Nat):S:=(s.map<|kl1 id).ES id U
def S.freeze(s:S)(id:Nat):S:=match s.H id with
 | some (.row _ _ k xs)=>(s.map<|fz1 id k xs).ES id U
 | _=>s.kill id
def LO(P:Program)(t:TypeId):Option Bool:=match P.underlying t with
 | some (.struct _)=>I A1
 | some (.array _ _)=>I A1
 | some _=>I A3
 | none=>U
def Ke(P:Program)(t:TypeId)(f:Nat):Option Field:=match P.underlying t with
 | some (.struct fs)=>fs[f]?
 | _=>U
def GD:AV->Option (List AV)
 | .un=>U
 | .gd _ _ _=>U
 | .lit (.tuple _)=>U
 | .lit (.agg _)=>U
 | .tup _=>U
 | .arr _ _=>U
 | .agg cs=>I cs
 | v=>I [v]
def I1(P:Program)(t:TypeId):Option (List AV):=(P.info? t).bind λi=>i.zero.bind λz=>match z.cells.toList.all Xq with
 | true=>I (z.cells.toList.map .lit)
 | false=>U
def eO:AV->AV->Bool
 | .lit (.int k n),.lit (.int k' m)=>A0 (k=k')&&A0 (n=m)
 | .lit (.bool a),.lit (.bool b)=>a == b
 | .lit (.string a),.lit (.string b)=>Aj a.size 0&&Aj b.size 0
 | .lit (.slice U 0 0),.sl _ []=>A1
 | _,_=>A3
def Lo:List AV->List AV->Bool
 | [],[]=>A1
 | a::l,b::m=>eO a b&&Lo l m
 | _,_=>A3
def zok(P:Program)(t:TypeId)(k:K):Bool:=match I1 P t with
 | some zs=>Lo zs (enc k<|dfl k)
 | none=>A3
def ID(P:Program)(t:TypeId):Option TypeId:=match P.underlying t with
 | some (.slice e)=>I e
 | _=>U
def inb(i:Int)(n:Nat):Bool:=A0 (0<=i)&&A0 (i<(n:Int))
def bt(s:A4)(i:Int):Int:=((s.data.toList.getD i.toNat 0).toNat:Int)
def rd{α:Type}(d:α)(xs:List α)(i:Int):α:=xs.getD i.toNat d
def BA(s:A4):List Int:=s.data.toList.map λb=>(b.toNat:Int)
def BH(xs:List Int):A4:=⟨(xs.map λn=>KF n.toNat).toArray⟩
def Dm(k:IntKind)(a b:Int):Int:=k.wrap ((FE k.bits a ^^^ FE k.bits b).toNat:Int)
def vg(k:IntKind)(a b:Int):Int:=k.wrap ((FE k.bits a &&& FE k.bits b).toNat:Int)
def ior(k:IntKind)(a b:Int):Int:=k.wrap ((FE k.bits a ||| FE k.bits b).toNat:Int)
def w64(n:Int):Int:=IntKind.i64.wrap n
def w8(n:Int):Int:=IntKind.u8.wrap n
def Ac(n:Nat):Bool:=A0<|n<=4294967296
abbrev PR:=Option<|Bool×AV×List Ob
def okA(v:AV):PR:=I (A1,v,[])
def okN:AV->PR
 | .gd _ _ _=>U
 | v=>okA v
def HB(P:Program)(t:TypeId)(cs:List AV)(o:Nat):Option AV:=match LO P t with
 | some A1=>match E0 (o+P.cellsOf t) cs.length&&E0 1 (P.cellsOf t) with
  | true=>I (.agg<|(cs.drop o).take<|P.cellsOf t)
  | false=>U
 | some A3=>cs[o]?
 | none=>U
def Jv(P:Program)(H:Hp)(t:TypeId):AV->Option AV
 | .ipt k x o=>HB P t (enc k x) o
 | .ptr id z i o=>match H id with
  | some (.box _ cs)=>match i with
   | 0=>HB P t cs o
   | _=>U
  | some (.row _ _ k xs)=>match Aj z (ks k) with
   | true=>HB P t (enc k<|xs.getD i<|dfl k) o
   | false=>U
  | some (.arr e k xs)=>match P.underlying t with
   | some (.array _ _)=>match Aj e t&&E0 1 (P.cellsOf t),i,o with
    | true,0,0=>I (.arr k xs)
    | _,_,_=>U
   | _=>match Aj z (ks k) with
    | true=>HB P t (enc k<|xs.getD i<|dfl k) o
    | false=>U
  | none=>U
 | _=>U
def VT(op:BinOp)(k:IntKind)(a b:Int):PR:=match op with
 | .add=>okA (.lit<|.int k<|k.wrap<|a+b)
 | .sub=>okA (.lit<|.int k<|k.wrap<|a - b)
 | .mul=>okA (.lit<|.int k<|k.wrap<|a * b)
 | .quo=>I (!decide (b=0),.lit<|.int k<|k.wrap<|a.tdiv b,[])
 | .rem=>I (!decide (b=0),.lit<|.int k<|a.tmod b,[])
 | .xor=>okA (.lit<|.int k<|Dm k a b)
 | .and=>okA (.lit<|.int k<|vg k a b)
 | .or=>okA (.lit<|.int k<|ior k a b)
 | .eql=>okA (.b<|A0<|a=b)
 | .neq=>okA (.b<|!decide (a=b))
 | .lss=>okA (.b<|A0<|a<b)
 | .leq=>okA (.b<|A0<|a<=b)
 | .gtr=>okA (.b<|A0<|b<a)
 | .geq=>okA (.b<|A0<|b<=a)
 | _=>U
def VP(op:BinOp)(a b:A4):PR:=match op with
 | .add=>I (A0<|a.size+b.size<=4611686018427387904,.s<|a++b,[])
 | .eql=>okA (.b<|A0<|a=b)
 | .neq=>okA (.b<|!decide (a=b))
 | _=>U
def eqC:List AV->List AV->Option Bool
 | [],[]=>I A1
 | .lit (.int k a)::l,.lit (.int k' b)::m=>match A0 (k=k') with
  | true=>(eqC l m).bind λr=>I<|A0 (a=b)&&r
  | false=>U
 | .lit (.bool a)::l,.lit (.bool b)::m=>(eqC l m).bind λr=>I<|A0 (a=b)&&r
 | .lit (.string a)::l,.lit (.string b)::m=>(eqC l m).bind λr=>I<|A0 (a=b)&&r
 | _,_=>U
def fG(P:Program):Nat->List Field->List AV->Bool
 | _,[],_=>A1
 | n,f::fs,c::cs=>(match P.underlying f.type,c with
  | some .bool,.lit (.bool _)=>A1
  | some (.int _),.lit (.int _ _)=>A1
  | some .string,.lit (.string _)=>A1
  | _,_=>A3)&&Aj f.offset n&& !(f.name == "_")&&fG P (n+1) fs cs
 | _,_,_=>A3
def pj(P:Program)(t:TypeId)(cs:List AV):Bool:=match P.underlying t with
 | some (.struct fs)=>fG P 0 fs.toList cs&&Aj fs.size cs.length&& !P.stoodInHeld t&& !P.eqGuardType P.depth t
 | _=>A3
def OY(P:Program)(op:BinOp)(t:TypeId):AV->AV->PR
 | .lit (.int k a),.lit (.int k' b)=>match A0 (k=k') with
  | true=>VT op k a b
  | false=>U
 | .lit (.string a),.lit (.string b)=>VP op a b
 | .lit (.bool a),.lit (.bool b)=>match P.underlying t,op with
  | some .bool,.eql=>okA (.b<|A0<|a=b)
  | some .bool,.neq=>okA (.b<|!decide (a=b))
  | _,_=>U
 | .agg a,.agg b=>match pj P t a,Aj a.length b.length,eqC a b,op with
  | true,A1,I r,.eql=>okA (.b r)
  | true,A1,I r,.neq=>okA (.b<|!r)
  | _,_,_,_=>U
 | _,_=>U
def unA:UnOp->AV->PR
 | .not,.lit (.bool b)=>okA (.b<|!b)
 | .neg,.lit (.int k n)=>okA (.lit<|.int k<|k.wrap<|0 - n)
 | _,_=>U
def GX(g:Nat)(w:Bool):AV->AV
 | .gd g' w' v=>match Aj g g',w == w' with
  | true,A1=>v
  | _,_=> .gd g' w' v
 | v=>v
def S3(w:Bool)(v:AV):Operand->AV
 | .tmp g=>GX g w v
 | _=>v
def LM:AV->Option Bool
 | .lit (.bool b)=>I b
 | _=>U
def Ov(ρ:Operand->AV)(c a b:Operand):PR:=match ρ c,a,b with
 | .lit (.bool q),.const (.bool A1),b=>match LM (S3 A3 (ρ b) c) with
  | some y=>okA (.b<|q||y)
  | none=>match q with
   | true=>okA (.b A1)
   | false=>okN (ρ b)
 | .lit (.bool q),a,.const (.bool A3)=>match LM (S3 A1 (ρ a) c) with
  | some x=>okA (.b<|q&&x)
  | none=>match q with
   | true=>okN (ρ a)
   | false=>okA (.b A3)
 | .lit (.bool q),a,b=>match q with
  | true=>okN (ρ a)
  | false=>okN (ρ b)
 | _,_,_=>U
def Hv(ρ:Operand->AV):Nat->List (Nat×Operand)->Option (List AV)
 | _,[]=>I []
 | n,(i,x)::l=>match Aj i n with
  | true=>(Hv ρ (n+1) l).bind λvs=>I<|ρ x::vs
  | false=>U
def ME(k:K):List AV->Option (List<|Tof k)
 | []=>I []
 | v::l=>(GD v).bind λcs=>(dec (λ_=>U) k cs).bind λx=>(ME k l).bind λxs=>I<|x::xs
def H4(cs:List AV)(o:Nat)(ys:List AV):List AV:=cs.take o++ys++cs.drop (o+ys.length)
def Hk(P:Program)(ρ:Operand->AV)(t:TypeId):List (Nat×Operand)->List AV->Option (List AV)
 | [],cs=>I cs
 | (i,x)::l,cs=>(Ke P t i).bind λf=>(GD<|ρ x).bind λys=>
  match Aj ys.length (P.cellsOf f.type)&&E0 (f.offset+ys.length) cs.length with
  | true=>Hk P ρ t l (H4 cs f.offset ys)
  | false=>U
def JY(lo hi:Option AV)(n:Nat):Option (Bool×Int×Int):=match lo,hi with
 | none,U=>I (A1,0,n)
 | some (.lit (.int _ l)),U=>I (A0 (0<=l)&&A0 (l<=(n:Int)),l,n)
 | none,I (.lit (.int _ h))=>I (A0 (0<=h)&&A0 (h<=(n:Int)),0,h)
 | some (.lit (.int _ l)),I (.lit (.int _ h))=>I ((A0 (0<=h)&&A0 (h<=(n:Int)))&&(A0 (0<=l)&&A0 (l<=h)),l,h)
 | _,_=>U
def J5{α:Type}(lo hi:Option AV)(l h:Int)(xs:List α):List α:=match lo,hi with
 | none,U=>xs
 | some _,U=>xs.drop l.toNat
 | none,I _=>xs.take h.toNat
 | some _,I _=>(xs.take h.toNat).drop l.toNat
def Is(P:Program)(H:Hp)(t:TypeId)(v:AV):Bool:=match P.underlying t,v with
 | some .string,.lit (.string _)=>A1
 | some (.slice e),.sl k _=>Aj (P.cellsOf e) (ks k)
 | some (.slice e),.lit (.slice _ _ _)=>E0 1 (P.cellsOf e)
 | some (.slice e),.own id=>match H id with
  | some (.row _ _ k _)=>Aj (P.cellsOf e) (ks k)
  | _=>A3
 | _,_=>A3
def R6(lo hi:Option AV):AV->PR
 | .lit (.string s)=>(JY lo hi s.size).bind fun(c,l,h)=>I (c,.s<|s.extract l.toNat h.toNat,[])
 | .sl k xs=>(JY lo hi xs.length).bind fun(c,l,h)=>I (c,.sl k<|J5 lo hi l h xs,[])
 | .lit (.slice U 0 0)=>(JY lo hi 0).bind fun(c,_,_)=>I (c,.lit<|.slice U 0 0,[])
 | _=>U
def Iu(P:Program)(src dst:TypeId)(b:AV):PR:=match P.underlying src,P.underlying dst,b with
 | some _,I (.int k),.lit (.int _ n)=>okA (.lit<|.int k<|k.wrap n)
 | some .string,I .string,.lit (.string s)=>okA (.s s)
 | some .string,I (.slice e),.lit (.string s)=>match P.underlying e with
  | some (.int .u8)=>I (Ac s.size,.own 0,[.row e A1 .u8 (BA s)])
  | _=>U
 | _,_,_=>U
def Rq(P:Program)(t:TypeId)(i:Int):AV->PR
 | .lit (.string s)=>match P.underlying t with
  | some .string=>I (inb i s.size,.y<|bt s i,[])
  | _=>U
 | .arr k xs=>match P.underlying t with
  | some (.array n e)=>match Aj (ks k) 1&&Aj (P.cellsOf e) 1,LO P e with
   | true,I A3=>(HB P e (enc k<|rd (dfl k) xs i) 0).bind λv=>I (inb i xs.length&&inb i n,v,[])
   | _,_=>U
  | _=>U
 | _=>U
def MD(P:Program)(H:Hp)(t:TypeId)(i:Int):AV->PR
 | .sl k xs=>match P.underlying t with
  | some (.slice e)=>match Aj (P.cellsOf e) (ks k) with
   | true=>I (inb i xs.length,.ipt k (rd (dfl k) xs i) 0,[])
   | false=>U
  | _=>U
 | .own id=>match P.underlying t,H id with
  | some (.slice e),I (.row _ _ k xs)=>match Aj (P.cellsOf e) (ks k) with
   | true=>I (inb i xs.length,.ptr id (ks k) i.toNat 0,[])
   | false=>U
  | _,_=>U
 | .ptr id z 0 0=>match P.underlying t,H id with
  | some (.array n e),I (.arr e' k xs)=>match Aj (P.cellsOf e) (ks k)&&Aj (P.cellsOf t) (n * ks k)&&Aj e' t with
   | true=>I (inb i xs.length,.ptr id (ks k) i.toNat 0,[])
   | false=>U
  | _,_=>U
 | _=>U
def JD(P:Program)(ρ:Operand->AV)(H:Hp)(c:Call):PR:=match c.callee,c.args.toList,c.argTypes.toList with
 | .builtin .len,[x],[t]=>match P.underlying t,ρ x with
  | some .string,.lit (.string s)=>okA (.i s.size)
  | some (.slice _),.sl _ xs=>okA (.i xs.length)
  | some (.slice _),.lit (.slice U 0 0)=>okA (.i 0)
  | some (.slice _),.own id=>match H id with
   | some (.row _ _ _ xs)=>okA (.i xs.length)
   | _=>U
  | some (.array n _),_=>okA (.i n)
  | _,_=>U
 | .builtin .min,[x,y],_=>match ρ x,ρ y with
  | .lit (.int k a),.lit (.int k' c)=>match A0 (k=k') with
   | true=>okA (.lit<|.int k<|if c<a then c else a)
   | false=>U
  | _,_=>U
 | .builtin .max,[x,y],_=>match ρ x,ρ y with
  | .lit (.int k a),.lit (.int k' c)=>match A0 (k=k') with
   | true=>okA (.lit<|.int k<|if a<c then c else a)
   | false=>U
  | _,_=>U
 | _,_,_=>U
def CA(P:Program)(kd:TypeId->Option K)(ρ:Operand->AV)(H:Hp)(b:Nat):Op->PR
 | .move x=>okN (ρ x)
 | .assign x=>okN (ρ x)
 | .pick c x y=>Ov ρ c x y
 | .alloc t=>match P.underlying t with
  | some (.array n e)=>(kd e).bind λk=>(I1 P t).bind λzs=>match Lo zs ((BW n<|dfl k).flatMap<|enc k)&&Aj (P.cellsOf t) (n * ks k)&&E0 1 n with
   | true=>I (A1,.ptr b (ks k) 0 0,[.arr t k (BW n<|dfl k)])
   | false=>U
  | _=>(I1 P t).bind λzs=>I (A1,.ptr b zs.length 0 0,[.box t zs])
 | .box t x=>(GD<|ρ x).bind λcs=>I (A1,.ptr b cs.length 0 0,[.box t cs])
 | .build t ps=>(I1 P t).bind λzs=>match P.underlying t with
  | some (.struct fs)=>match fs.toList.all λf=>(P.info? f.type).isSome with
   | true=>(Hk P ρ t ps.toList zs).bind λcs=>okA<|.agg cs
   | false=>U
  | _=>U
 | .buildSlice t len ps=>(ID P t).bind λe=>(kd e).bind λk=>(Hv ρ 0 ps.toList).bind λvs=>(ME k vs).bind λxs=>
  match Aj vs.length len&&Aj (P.cellsOf e) (ks k)&&E0 len 65536&&zok P e k with
  | true=>I (A1,.own b,[.row e A3 k xs])
  | false=>U
 | .load t p=>(Jv P H t<|ρ p).bind okA
 | .nilCheck p=>match ρ p with
  | .ptr id z i o=>okA (.ptr id z i o)
  | .ipt k x o=>okA (.ipt k x o)
  | _=>U
 | .binOp op t x y _=>OY P op t (ρ x) (ρ y)
 | .unOp op _ x=>unA op (ρ x)
 | .convert src dst x=>match P.underlying src,P.underlying dst with
  | some (.slice e),I .string=>match P.underlying e with
   | some (.int .u8)=>(CF H .u8<|ρ x).bind λxs=>okA<|.s<|BH xs
   | _=>U
  | _,_=>match Iu P src dst (ρ x) with
   | some (c,.own _,os)=>I (c,.own b,os)
   | r=>r
 | .makeSlice t l c=>match ρ l,ρ c,(match l,c with
   | .tmp i,.tmp j=>Aj i j
   | _,_=>A3) with
  | .lit (.int .i64 n),_,A1=>(ID P t).bind λe=>(kd e).bind λk=>
   match zok P e k&&Aj (P.cellsOf e) (ks k)&&E0 (P.bytesOf e) 256 with
   | true=>I (A0 (0<=n)&&A0 (n<=4294967296),.own b,[.row e A3 k (BW n.toNat<|dfl k)])
   | false=>U
  | .lit (.int .i64 n),.lit (.int .i64 m),A3=>match A0 (n=m) with
   | true=>(ID P t).bind λe=>(kd e).bind λk=>
    match zok P e k&&Aj (P.cellsOf e) (ks k)&&E0 (P.bytesOf e) 256 with
    | true=>I (A0 (0<=n)&&A0 (n<=4294967296),.own b,[.row e A3 k (BW n.toNat<|dfl k)])
    | false=>U
   | false=>U
  | _,_,_=>U
 | .slice t x lo hi U=>match Is P H t (ρ x) with
  | true=>R6 (lo.map ρ) (hi.map ρ) (ρ x)
  | false=>U
 | .fieldAddr t x f=>(Ke P t f).bind λfd=>match E0 1 (P.cellsOf fd.type) with
  | true=>match ρ x with
   | .ptr id z i o=>okA (.ptr id z i<|o+fd.offset)
   | .ipt k v o=>okA (.ipt k v<|o+fd.offset)
   | _=>U
  | false=>U
 | .field t x f=>(Ke P t f).bind λfd=>match ρ x with
  | .agg cs=>(HB P fd.type cs fd.offset).bind okA
  | _=>U
 | .indexAddr t x ix=>match ρ ix with
  | .lit (.int _ i)=>MD P H t i (ρ x)
  | _=>U
 | .index t x ix=>match ρ ix with
  | .lit (.int _ i)=>Rq P t i (ρ x)
  | _=>U
 | .extract x i=>match ρ x with
  | .tup vs=>(vs[i]?).bind okA
  | _=>U
 | .call c=>JD P ρ H c
 | _=>U
abbrev Dp:AV:= .lit undef
def Gm:AV->Option Nat
 | .own id=>I id
 | _=>U
def nop:AV->Bool
 | .lit (.pointer (I _))=>A3
 | .lit _=>A1
 | .sl _ _=>A1
 | .own _=>A1
 | _=>A3
def qD(o n:Nat)(cs:List AV):Bool:=E0 (o+n) cs.length&&(E0 1 o||nop (cs.headD<|.lit<|.bool A3))
def Ic(P:Program)(t:TypeId)(s:S):AV->AV->Option S
 | .ptr id z i o,x=>match s.H id with
  | some (.box e cs)=>match i with
   | 0=>(GD x).bind λys=>match Aj ys.length (P.cellsOf t)&&E0 1 (P.cellsOf t)&&qD o ys.length cs with
    | true=>I (s.ES id<|I<|.box e<|H4 cs o ys)
    | false=>U
   | _=>U
  | some (.row e fz k xs)=>(GD x).bind λys=>match Aj ys.length (P.cellsOf t)&&E0 1 (P.cellsOf t)&&E0 (o+ys.length) (ks k)&&Aj z (ks k)&& !((ys.filterMap Gm).any λj=>Aj j id) with
   | true=>(dec s.H k<|H4 (enc k<|xs.getD i<|dfl k) o ys).bind λy=>
    I (((ys.filterMap Gm).foldl S.freeze s).ES id<|I<|.row e fz k<|xs.set i y)
   | false=>U
  | some (.arr e k xs)=>(GD x).bind λys=>match Aj ys.length (P.cellsOf t)&&E0 1 (P.cellsOf t)&&E0 (o+ys.length) (ks k)&&Aj z (ks k) with
   | true=>(dec (λ_=>U) k<|H4 (enc k<|xs.getD i<|dfl k) o ys).bind λy=>I<|s.ES id<|I<|.arr e k<|xs.set i y
   | false=>U
  | none=>U
 | _,_=>U
def KH(H:Hp)(k:K):AV->Option (List<|Tof k)
 | .lit (.string s)=>match k with
  | .u8=>I (BA s)
  | _=>U
 | v=>CF H k v
def Jy(P:Program)(kd:TypeId->Option K)(t t2:TypeId)(s:S)(b:Nat)(x y:AV):Option (Bool×AV×S):=
 (ID P t).bind λe=>(kd e).bind λk=>(KH s.H k y).bind λys=>
 match Aj (P.cellsOf e) (ks k)&&E0 (P.bytesOf e) 256&&zok P e k&&(match P.underlying t2 with
   | some .string=>A1
   | some (.slice _)=>A1
   | _=>A3),x with
 | true,.lit (.slice U 0 0)=>I (Ac ys.length,.own b,s.ES b<|I<|.row e A3 k ys)
 | true,.own id=>match s.H id,(match y with
   | .own j=>Aj j id
   | _=>A3) with
  | some (.row e' A3 k' xs),A3=>match Aj e e' with
   | true=>(Ix k' k xs).bind λxs=>I (Ac<|xs.length+ys.length,.own id,(s.map<|kl1 id).ES id<|I<|.row e A3 k<|xs++ys)
   | false=>U
  | _,_=>U
 | _,_=>U
def Kd(P:Program)(t:TypeId)(s:S)(x y:AV):Option (AV×S):=match x with
 | .own id=>match s.H id,(match y with
   | .own j=>Aj j id
   | _=>A3) with
  | some (.row e fz k xs),A3=>(ID P t).bind λe'=>match Aj (P.cellsOf e') (ks k) with
   | true=>(KH s.H k y).bind λys=>I (.i (Ex ys.length xs.length:Nat),s.ES id<|I<|.row e fz k<|ys.take xs.length++xs.drop ys.length)
   | false=>U
  | _,_=>U
 | _=>U
def Kc(s:S)(id:Nat)(z:Bool)(lo hi:Option AV):Option (Bool×AV×S):=match s.H id with
 | some (.row e fz k xs)=>(JY lo hi xs.length).bind fun(c,l,h)=>match z,hi with
  | true,U=>I (c,.own id,(s.map<|kl1 id).ES id<|I<|.row e fz k<|J5 lo hi l h xs)
  | true,I _=>U
  | false,_=>I (c,.sl k<|J5 lo hi l h xs,s.freeze id)
 | _=>U
inductive Sh where
 | int (k:IntKind)
 | bool
 | str
 | sl (k:K)
 | row (e:TypeId) (k:K)
 | fz (k:K)
 | agg (l:List Sh)
 | Cb (e:TypeId) (k:K)
 | abx (e:TypeId) (k:K)
 | arr (k:K)
 | same (t:Nat)
 | box (e:TypeId) (l:List Sh)
mutual
abbrev LT:Sh->Type
 | .int _=>Int
 | .bool=>Bool
 | .str=>A4
 | .sl k=>List (Tof k)
 | .row _ k=>List (Tof k)
 | .fz k=>List (Tof k)
 | .Cb _ k=>List (Tof k)
 | .abx _ k=>List (Tof k)
 | .arr k=>List (Tof k)
 | .same _=>A2
 | .agg l=>LTs l
 | .box _ l=>LTs l
abbrev LTs:List Sh->Type
 | []=>A2
 | h::l=>LT h×LTs l
end
mutual
def Bp (E:Nat->AV) (H:Hp):(h:Sh)->AV->Option (LT h)
 | .int k,.lit (.int k' n)=>match A0 (k=k') with
  | true=>I n
  | false=>U
 | .bool,.lit (.bool b)=>I b
 | .str,.lit (.string s)=>I s
 | .sl k,.sl k' xs=>Ix k' k xs
 | .sl _,.lit (.slice U 0 0)=>I []
 | .row _ _,.lit (.slice U 0 0)=>I []
 | .row e k,.own id=>match H id with
  | some (.row e' A3 k' xs)=>match Aj e e' with
   | true=>Ix k' k xs
   | false=>U
  | _=>U
 | .fz k,v=>CF H k v
 | .Cb e k,.own id=>match H id with
  | some (.row e' A1 k' xs)=>match Aj e e' with
   | true=>Ix k' k xs
   | false=>U
  | _=>U
 | .abx e k,.ptr id z 0 0=>match H id with
  | some (.arr e' k' xs)=>match Aj e e'&&Aj z (ks k) with
   | true=>Ix k' k xs
   | false=>U
  | _=>U
 | .arr k,.arr k' xs=>Ix k' k xs
 | .same t,.ptr id _ 0 0=>match E t with
  | .ptr id' _ 0 0=>match Aj id id' with
   | true=>I ()
   | false=>U
  | _=>U
 | .agg l,.agg cs=>Fv E H l cs
 | .box e l,.ptr id _ 0 0=>match H id with
  | some (.box e' cs)=>match Aj e e' with
   | true=>Fv E H l cs
   | false=>U
  | _=>U
 | _,_=>U
def Fv (E:Nat->AV) (H:Hp):(l:List Sh)->List AV->Option (LTs l)
 | [],[]=>I ()
 | h::l,c::cs=>(Bp E H h c).bind λx=>(Fv E H l cs).bind λxs=>I (x,xs)
 | _,_=>U
end
mutual
def CV (H:Hp):Sh->AV->List Nat
 | .row _ _,.own id=>[id]
 | .Cb _ _,.own id=>[id]
 | .abx _ _,.ptr id _ 0 0=>[id]
 | .agg l,.agg cs=>Bm H l cs
 | .box _ l,.ptr id _ 0 0=>match H id with
  | some (.box _ cs)=>Bm H l cs++[id]
  | _=>[]
 | _,_=>[]
def Bm (H:Hp):List Sh->List AV->List Nat
 | h::l,c::cs=>CV H h c++Bm H l cs
 | _,_=>[]
end
mutual
def CD (H:Hp):Sh->AV->List Nat
 | .row _ _,.own id=>[id]
 | .Cb _ _,.own id=>[id]
 | .abx _ _,.ptr id _ 0 0=>[id]
 | .agg l,.agg cs=>CU H l cs
 | .box _ l,.ptr id _ 0 0=>match H id with
  | some (.box _ cs)=>CU H l cs
  | _=>[]
 | _,_=>[]
def CU (H:Hp):List Sh->List AV->List Nat
 | h::l,c::cs=>CD H h c++CU H l cs
 | _,_=>[]
end
mutual
def Cn (H:Hp):Sh->AV->List Nat
 | .fz _,.own id=>[id]
 | .agg l,.agg cs=>Cz H l cs
 | .box _ l,.ptr id _ 0 0=>match H id with
  | some (.box _ cs)=>Cz H l cs
  | _=>[]
 | _,_=>[]
def Cz (H:Hp):List Sh->List AV->List Nat
 | h::l,c::cs=>Cn H h c++Cz H l cs
 | _,_=>[]
end
def Mw:List Nat->Bool
 | []=>A1
 | a::l=> !(l.any λb=>Aj a b)&&Mw l
def off(l m:List Nat):Bool:=l.all λa=> !(m.any λb=>Aj a b)
mutual
def BL (E:Nat->AV) (H:Hp) (b:Nat):(h:Sh)->LT h->AV×Hp×Nat
 | .int k,n=>(.lit<|.int k n,H,b)
 | .bool,x=>(.b x,H,b)
 | .str,s=>(.s s,H,b)
 | .sl k,xs=>(.sl k xs,H,b)
 | .row e k,xs=>(.own b,upd H b<|I<|.row e A3 k xs,b+1)
 | .fz k,xs=>(.sl k xs,H,b)
 | .Cb e k,xs=>(.own b,upd H b<|I<|.row e A1 k xs,b+1)
 | .abx e k,xs=>(.ptr b (ks k) 0 0,upd H b<|I<|.arr e k xs,b+1)
 | .arr k,xs=>(.arr k xs,H,b)
 | .same t,_=>(E t,H,b)
 | .agg l,x=>match Ak E H b l x with
  | (cs,H,b)=>(.agg cs,H,b)
 | .box e l,x=>match Ak E H b l x with
  | (cs,H,b)=>(.ptr b cs.length 0 0,upd H b<|I<|.box e cs,b+1)
def Ak (E:Nat->AV) (H:Hp) (b:Nat):(l:List Sh)->LTs l->List AV×Hp×Nat
 | [],_=>([],H,b)
 | h::l,x=>match BL E H b h x.1 with
  | (c,H,b)=>match Ak E H b l x.2 with
   | (cs,H,b)=>(c::cs,H,b)
end
mutual
def D5 (E:Nat->AV) (H:Hp) (b:Nat):(h:Sh)->AV->LT h->AV×Hp×Nat
 | .box e l,.ptr id z 0 0,x=>match H id with
  | some (.box _ cs)=>match BQ E H b l cs x with
   | (ds,H,b)=>(.ptr id z 0 0,upd H id<|I<|.box e ds,b)
  | _=>(.un,H,b)
 | .same _,v,_=>(v,H,b)
 | h,_,x=>BL E H b h x
def BQ (E:Nat->AV) (H:Hp) (b:Nat):(l:List Sh)->List AV->LTs l->List AV×Hp×Nat
 | [],_,_=>([],H,b)
 | h::l,cs,x=>match D5 E H b h (cs.headD .un) x.1 with
  | (d,H,b)=>match BQ E H b l cs.tail x.2 with
   | (ds,H,b)=>(d::ds,H,b)
end
def Vm:Sh->Bool
 | .box _ _=>A1
 | _=>A3
abbrev B6:List Sh->List Sh
 | []=>[]
 | .box e l::ps=> .box e l::B6 ps
 | .int _::ps=>B6 ps
 | .bool::ps=>B6 ps
 | .str::ps=>B6 ps
 | .sl _::ps=>B6 ps
 | .row _ _::ps=>B6 ps
 | .fz _::ps=>B6 ps
 | .Cb _ _::ps=>B6 ps
 | .abx _ _::ps=>B6 ps
 | .arr _::ps=>B6 ps
 | .same _::ps=>B6 ps
 | .agg _::ps=>B6 ps
def Ff:List Sh->List AV->List AV
 | .box _ _::ps,v::vs=>v::Ff ps vs
 | _::ps,_::vs=>Ff ps vs
 | _,_=>[]
def RO:K->Bool
 | .half=>A3
 | .keep=>A3
 | .AN=>A3
 | _=>A1
mutual
def M3:Sh->Bool
 | .sl _=>A1
 | .fz _=>A1
 | .row _ k=> !RO k
 | .Cb _ k=> !RO k
 | .abx _ k=> !RO k
 | .arr k=> !RO k
 | .agg l=>CL l
 | .box _ l=>CL l
 | _=>A3
def CL:List Sh->Bool
 | []=>A3
 | h::l=>M3 h||CL l
end
structure Da where
 ps:List Sh
 rs:List Sh
 g:LTs ps->Option (LTs rs×LTs (B6 ps))
def Lk:List AV->AV
 | [v]=>v
 | vs=> .tup vs
def GU(q:Bool)(ids:List Nat)(s:S):S:=match q with
 | true=>ids.foldl S.freeze s
 | false=>s
def Hb{Ω:Type}(m:Da)(s:S)(b:Nat)(d:Option Nat)(as:List AV)(k:S->Option Ω):Option Ω:=
 let E:Nat->AV:=λi=>(as[i]?).getD .un
 match Fv E s.H m.ps as,Mw (Bm s.H m.ps as)&&off (Cz s.H m.ps as) (Bm s.H m.ps as) with
 | some x,A1=>(m.g x).bind λr=>
  let s1:=(CU s.H m.ps as).foldl S.kill s
  let s2:S:=GU (CL m.rs||CL (B6 m.ps)) (Cz s.H m.ps as) s1
  match BQ E s2.H b (B6 m.ps) (Ff m.ps as) r.2 with
  | (_,H,b1)=>match Ak E H b1 m.rs r.1 with
   | (vs,H,b2)=>match E0 b2 (b+16) with
    | true=>k ({ s2 with H:=H }.put d<|Lk vs)
    | false=>U
 | _,_=>U
structure Cx where
 P:Program
 kd:TypeId->Option K
 Γ:Nat->Option Nat->Option Da
 cz:Nat->Bool
 sp:Nat->Bool
abbrev Inl(Ω:Type):=Nat->Option Nat->List AV->S->(S->Option Ω)->Option Ω
def LG(ρ:Operand->AV)(ps:List (Nat×Operand)):List Nat:=ps.flatMap λp=>match ρ p.2 with
 | .agg cs=>cs.filterMap Gm
 | v=>(Gm v).toList
def CI{Ω:Type}(C:Cx)(inl:Inl Ω)(o:Oper)(b:Nat)(s:S)(k:S->Option Ω):Option Ω:=
 match s.has o.dst with
 | false=>U
 | true=>match o.op with
  | .store t p x=>match Ic C.P t s (s.ev p) (s.ev x) with
   | some s=>k (s.put o.dst Dp)
   | none=>U
  | .call c=>match c.callee,c.args.toList,c.argTypes.toList with
   | .value (.func f),as,_=>match C.Γ f o.dst with
    | some m=>Hb m s b o.dst (as.map s.ev) k
    | none=>inl f o.dst (as.map s.ev) s k
   | .builtin .append,[x,y],[t,u]=>match Jy C.P C.kd t u s b (s.ev x) (s.ev y) with
    | some (q,v,s)=>if q then k (s.put o.dst v) else U
    | none=>U
   | .builtin .copy,[x,y],[t,_]=>match Kd C.P t s (s.ev x) (s.ev y) with
    | some (v,s)=>k (s.put o.dst v)
    | none=>U
   | _,_,_=>match CA C.P C.kd s.ev s.H b o.op with
    | some (q,v,os)=>if q then k ({ s with H:=Ei s.H b os }.put o.dst v) else U
    | none=>U
  | .slice t x lo hi U=>match s.ev x with
   | .own id=>match Is C.P s.H t (.own id) with
    | false=>U
    | true=>match Kc s id (match o.dst with
     | some d=>C.cz d
     | none=>A3) (lo.map s.ev) (hi.map s.ev) with
    | some (c,v,s)=>if c then k (s.put o.dst v) else U
    | none=>U
   | _=>match CA C.P C.kd s.ev s.H b (.slice t x lo hi U) with
    | some (c,v,os)=>if c then k ({ s with H:=Ei s.H b os }.put o.dst v) else U
    | none=>U
  | .buildSlice t n ps=>
   let s:=(LG s.ev ps.toList).foldl S.freeze s
   match CA C.P C.kd s.ev s.H b (.buildSlice t n ps) with
   | some (c,v,os)=>if c then k ({ s with H:=Ei s.H b os }.put o.dst v) else U
   | none=>U
  | op=>match CA C.P C.kd s.ev s.H b op with
   | some (c,v,os)=>if c then k ({ s with H:=Ei s.H b os }.put o.dst v) else U
   | none=>U
mutual
def G5:Sh->Bool
 | .int _=>A1
 | .bool=>A1
 | .str=>A1
 | .agg l=>NQ l
 | _=>A3
def NQ:List Sh->Bool
 | []=>A1
 | h::l=>G5 h&&NQ l
end
mutual
def ayf:(h:Sh)->LT h
 | .int _=>(0:Int)
 | .bool=>A3
 | .str=>noB
 | .sl _=>[]
 | .row _ _=>[]
 | .fz _=>[]
 | .Cb _ _=>[]
 | .abx _ _=>[]
 | .arr _=>[]
 | .same _=>()
 | .agg l=>MR l
 | .box _ l=>MR l
def MR:(l:List Sh)->LTs l
 | []=>()
 | h::l=>(ayf h,MR l)
end
def spA(C:Cx)(b:Nat)(d:Option Nat)(ρ:Operand->AV)(H:Hp):Op->Option (Bool×AV)
 | .call c=>match c.callee,c.args.toList,c.argTypes.toList with
  | .value (.func f),as,_=>(C.Γ f d).bind λm=>
   let E:Nat->AV:=λi=>((as.map ρ)[i]?).getD .un
   match NQ m.rs&&(B6 m.ps).isEmpty&&(CU H m.ps<|as.map ρ).isEmpty&&(Bm H m.ps<|as.map ρ).isEmpty with
   | true=>(Fv E H m.ps<|as.map ρ).bind λx=>I ((m.g x).isSome,Lk (Ak E H b m.rs ((m.g x).getD (MR m.rs,MR<|B6 m.ps)).1).1)
   | false=>U
  | .builtin .append,_,_=>U
  | .builtin .copy,_,_=>U
  | _,_,_=>match JD C.P ρ H c with
   | some (q,v,[])=>I (q,v)
   | _=>U
 | .store _ _ _=>U
 | .buildSlice _ _ _=>U
 | .slice t x lo hi U=>match ρ x with
  | .own _=>U
  | _=>match CA C.P C.kd ρ H b (.slice t x lo hi U) with
   | some (q,v,[])=>I (q,v)
   | _=>U
 | op=>match CA C.P C.kd ρ H b op with
  | some (q,v,[])=>I (q,v)
  | _=>U
def eqW(c want:Bool):Bool:=match want with
 | true=>c
 | false=> !c
def Ad(c q:Bool):Bool:=match q with
 | true=>A1
 | false=> !c
def Mh(ops:Array Oper)(s:S):Nat->Oper->Option Bool
 | 0,_=>U
 | n+1,o=>match o.guard with
  | none=>I A1
  | some (j,want)=>(ops[j]?).bind λoj=>oj.dst.bind λg=>match s.T g with
   | .lit (.bool c)=>I (eqW c want)
   | .lit (.tuple _)=>I A3
   | .gd g' w' (.lit (.bool c))=>match oj.guard with
    | some (j',w2)=>match (ops[j']?).bind (·.dst) with
     | some g2=>match Aj g' g2,w' == w2 with
      | true,A1=>(Mh ops s n oj).bind λb=>I<|b&&eqW c want
      | _,_=>U
     | none=>U
    | none=>U
   | _=>U
def xf(c:Option Bool)(q:Bool):Bool:=match c with
 | some c=>Ad c q
 | none=>q
def sA:AV->Bool
 | .gd _ _ _=>A3
 | _=>A1
def S.narrow(s:S)(g:Nat)(w:Bool):S:={ s with T:=upd (λt=>GX g w<|s.T t) g (.b w) }
def evG{Ω:Type}(C:Cx)(inl:Inl Ω)(ops:Array Oper)(o:Oper)(b:Nat)(s:S)(k:S->Option Ω):Option Ω:=
 match o.guard with
 | none=>CI C inl o b s k
 | some (j,want)=>match (ops[j]?).bind (·.dst),(match o.dst with
   | some d=>C.sp d
   | none=>A3) with
  | none,_=>U
  | some g,A1=>match { s with gs:=upd s.gs g A1 }.has o.dst,spA C b o.dst (s.narrow g want).ev s.H o.op with
   | true,I (q,v)=>match sA v with
    | true=>if xf (Mh ops s 4 o) q then k { s.put o.dst (.gd g want v) with gs:=upd s.gs g A1 } else U
    | false=>U
   | _,_=>U
  | some g,A3=>match s.T g with
   | .lit (.bool c)=>
    let yes:Option Ω:=CI C inl o b { s with T:=upd s.T g (.b want) } k
    let no:Option Ω:=match s.has o.dst with
     | true=>k ({ s with T:=upd s.T g (.b<|!want) }.put o.dst Dp)
     | false=>U
    match want with
    | true=>if c then yes else no
    | false=>if c then no else yes
   | .lit (.tuple _)=>match s.has o.dst with
    | true=>k (s.put o.dst Dp)
    | false=>U
   | _=>U
def Ot{Ω:Type}(C:Cx)(inl:Inl Ω)(ops:Array Oper):List Oper->S->(S->Option Ω)->Option Ω
 | [],s,k=>k s
 | o::l,s,k=>evG C inl ops o s.nid s λs=>Ot C inl ops l { s with nid:=s.nid+16 } k
def Wp(Ω:Type):Inl Ω:=λ_ _ _ _ _=>U
mutual
def Ds:Sh->Bool
 | .agg _=>A3
 | .same _=>A3
 | .arr _=>A3
 | .box _ l=>Hi l
 | _=>A1
def Hi:List Sh->Bool
 | []=>A1
 | h::l=>Ds h&&Hi l
end
def vV:Sh->Bool
 | .agg l=>Hi l
 | .arr _=>A1
 | h=>Ds h
def Yl:List Sh->Bool
 | []=>A1
 | h::l=>vV h&&Yl l
def okS(m:Da):Bool:=Yl m.rs&&Hi (B6 m.ps)
def Ou(H:Hp)(x y:AV):List Nat:=match x with
 | .ptr id _ _ _=>match H id with
  | some (.row _ _ _ _)=>id::((GD y).getD []).filterMap Gm
  | _=>[id]
 | _=>[]
def fzl(q:Bool)(l:List Nat):List Nat:=match q with
 | true=>l
 | false=>[]
def Ju(v:AV):List Nat:=(Gm v).toList
def Dv(C:Cx)(s:S)(o:Oper):Option (List Nat):=match o.op with
 | .store _ p x=>I (Ou s.H (s.ev p)<|s.ev x)
 | .call c=>match c.callee,c.args.toList with
  | .value (.func f),as=>match C.Γ f o.dst with
   | some m=>match (B6 m.ps).isEmpty with
    | true=>I (CU s.H m.ps (as.map s.ev)++fzl (CL m.rs||CL (B6 m.ps)) (Cz s.H m.ps<|as.map s.ev))
    | false=>U
   | none=>U
  | .builtin .append,x::_=>I (Ju<|s.ev x)
  | .builtin .copy,x::_=>I (Ju<|s.ev x)
  | _,_=>I []
 | .slice _ x _ _ U=>I (Ju<|s.ev x)
 | .buildSlice _ _ ps=>I (LG s.ev ps.toList)
 | _=>I []
def JH(C:Cx)(s:S)(o:Oper):List Nat:=match o.op with
 | .call c=>match c.callee,c.args.toList with
  | .value (.func f),as=>match C.Γ f o.dst with
   | some m=>CU s.H m.ps (as.map s.ev)++fzl (CL m.rs||CL (B6 m.ps)) (Cz s.H m.ps<|as.map s.ev)
   | none=>[]
  | _,_=>[]
 | _=>[]
def okO(C:Cx)(o:Oper):Bool:=match o.op with
 | .call c=>match c.callee with
  | .value (.func f)=>match C.Γ f o.dst with
   | some m=>okS m
   | none=>A3
  | _=>A1
 | _=>A1
mutual
def IU:Sh->Bool
 | .agg _=>A3
 | .arr _=>A3
 | .box _ l=>Mc l
 | _=>A1
def Mc:List Sh->Bool
 | []=>A1
 | h::l=>IU h&&Mc l
end
def kr:Sh->Bool
 | .agg l=>Mc l
 | .arr _=>A1
 | h=>IU h
def KJ:List Sh->Bool
 | []=>A1
 | h::l=>kr h&&KJ l
def Mq:AV->Option (List Nat)
 | .own id=>I [id]
 | .ptr id _ _ _=>I [id]
 | .agg _=>U
 | .tup _=>U
 | .gd _ _ _=>U
 | _=>I []
def df:List AV->Option (List Nat)
 | []=>I []
 | c::cs=>(Mq c).bind λa=>(df cs).bind λb=>I<|a++b
def Nh:AV->Option (List Nat)
 | .agg cs=>df cs
 | v=>Mq v
def iM:List AV->Option (List Nat)
 | []=>I []
 | c::cs=>(Nh c).bind λa=>(iM cs).bind λb=>I<|a++b
def YM:AV->Option (List Nat)
 | .tup vs=>iM vs
 | v=>Nh v
def U1:AV->Option (List Nat)
 | .gd _ _ v=>YM v
 | v=>YM v
def bit(i:Nat):Nat:=Nat.shiftLeft 1 i
def msk:List Nat->Nat
 | []=>0
 | i::l=>BO (bit i) (msk l)
def nm(b:Nat):Nat:=Nat.shiftLeft 65535 b
def dsj(a b:Nat):Bool:=Aj (Oz a b) 0
def sbs(a b:Nat):Bool:=Aj (Oz a b) a
def tst(a i:Nat):Bool:= !(dsj a<|bit i)
def aaP(H:Hp)(id:Nat):Option (List Nat):=match H id with
 | some (.box _ cs)=>df cs
 | _=>I []
def YZ(H:Hp):List Nat->Option (List Nat)
 | []=>I []
 | i::l=>(aaP H i).bind λa=>(YZ H l).bind λb=>I<|a++b
def clo(H:Hp):Nat->List Nat->Option Nat
 | 0,[]=>I 0
 | 0,_::_=>U
 | n+1,l=>match l with
  | []=>I 0
  | i::l=>(YZ H<|i::l).bind λm=>(clo H n m).bind λr=>I<|BO (msk<|i::l) r
def Yi(ops:Array Oper):Nat->Oper->List Nat
 | 0,_=>[]
 | n+1,o=>match o.guard with
  | none=>[]
  | some (j,_)=>match ops[j]? with
   | some oj=>oj.dst.toList++Yi ops n oj
   | none=>[]
abbrev DF(ops:Array Oper)(o:Oper):List Nat:=o.looksAt ops++Yi ops 4 o
def mov:Op->Bool
 | .move _=>A1
 | .assign _=>A1
 | .nilCheck _=>A1
 | .binOp _ _ _ _ _=>A1
 | .unOp _ _ _=>A1
 | .fieldAddr _ _ _=>A1
 | .field _ _ _=>A1
 | .extract _ _=>A1
 | .index _ _ _=>A1
 | .build _ _=>A1
 | _=>A3
def pur(o:Oper):Bool:=match o.op with
 | .store _ _ _=>A3
 | .call _=>A3
 | .slice _ _ _ _ _=>A3
 | .buildSlice _ _ _=>A3
 | _=>A1
structure Rec where
 i:Nat
 b:Nat
 F:Nat
 N:Nat
 W:Nat
 K:Nat
 anc:Nat
 V:List Nat
 o:Oper
def I3(i:Nat):List Rec->Option Rec
 | []=>U
 | r::l=>match Aj r.i i with
  | true=>I r
  | false=>I3 i l
def Pr(acc:List Rec):List Edge->Option Nat
 | []=>I 0
 | e::l=>match Fq .any e with
  | true=>(I3 e.on acc).bind λr=>(Pr acc l).bind λm=>I<|BO (BO (bit e.on) r.anc) m
  | false=>Pr acc l
def lb(t:Nat):Option Nat->Bool
 | some d=>Aj d t
 | none=>A3
def aBF(t:Nat)(l:List Nat):Bool:=l.any λx=>Aj x t
def OC(d:Option Nat)(l:List Nat):Bool:=match d with
 | some t=> !(aBF t l)
 | none=>A1
def oK(d e:Option Nat):Bool:=match d,e with
 | some a,I b=> !(Aj a b)
 | _,_=>A1
def Rk(t:Nat):List Rec->Option Rec
 | []=>U
 | r::l=>match lb t r.o.dst with
  | true=>I r
  | false=>Rk t l
def ck(s0:S)(acc:List Rec):List Nat->Option (List Nat)
 | []=>I []
 | t::l=>(match Rk t acc with
  | some r=>I r.V
  | none=>U1 (s0.T t)).bind λa=>(ck s0 acc l).bind λb=>I<|a++b
def mvO(o:Oper):Bool:=mov o.op&&pur o&&o.guard.isNone
def ON(anc:Nat):List Rec->Nat->Nat
 | [],F=>F
 | r::l,F=>ON anc l (match tst anc r.i&& !(dsj r.W F)&& !(mvO r.o) with
  | true=>BO r.F F
  | false=>F)
def uA(C:Cx)(ops:Array Oper)(s0:S)(o:Oper)(i b:Nat)(acc:List Rec)(s:S):Option Rec:=
 (Pr acc o.after.toList).bind λanc=>(ck s0 acc<|DF ops o).bind λl=>(clo s0.H 4 l).bind λc=>
 let F:=match mvO o with
  | true=>BO (msk l) (nm b)
  | false=>ON anc acc (BO c<|nm b)
 let W:=match Dv C s o with
  | none=>F
  | some l=>BO (msk l) (nm b)
 let K:=match Dv C s o with
  | none=>BO (msk<|JH C s o) (nm b)
  | some l=>BO (msk l) (nm b)
 let N:=match mvO o with
  | true=>nm b
  | false=>match pur o,o.guard with
   | true,U=>BO (msk l) (nm b)
   | _,_=>F
 match sbs W F with
 | true=>I { i:=i,b:=b,F:=F,N:=N,W:=W,K:=K,anc:=anc,V:=[],o:=o }
 | false=>U
def anl:Op->Bool
 | .load _ _=>A1
 | _=>A3
def ww(C:Cx)(ops:Array Oper)(s:S):Nat->Nat->AV
 | 0,t=>s.T t
 | n+1,t=>match ops.toList.find? (λo=>lb t o.dst) with
  | none=>s.T t
  | some o=>match mov o.op||anl o.op with
   | true=>(match CA C.P C.kd (λx=>match x with
     | .tmp t=>ww C ops s n t
     | x=>s.ev x) s.H s.nid o.op with
    | some (_,v,_)=>v
    | none=> .un)
   | false=> .un
def agL(o:Oper):Option Nat:=match o.op with
 | .slice _ (.tmp x) _ _ U=>I x
 | _=>U
def jG:List Nat->List Nat
 | []=>[]
 | i::l=>match l.any (Aj i) with
  | true=>i::jG l
  | false=>jG l
def Rp(C:Cx)(ops:Array Oper)(s:S):List Nat:=match ops.toList.filterMap agL with
 | []=>[]
 | [_]=>[]
 | xs=>jG (xs.filterMap λx=>Gm<|ww C ops s 4 x)
def chk(ops:Array Oper)(x r:Rec):Bool:=
 oK x.o.dst r.o.dst&&match tst r.anc x.i with
  | true=>(dsj x.W r.N||sbs x.F r.F)&&(OC x.o.dst (DF ops r.o)||(sbs (msk x.V) r.F&&(mov r.o.op||sbs (msk x.V) r.N)))&&dsj x.F (nm r.b)
  | false=>(dsj x.K r.F&&dsj r.K x.F)&&(dsj x.W r.N&&dsj r.W x.N)&&(dsj x.W r.W&&(dsj x.F (nm r.b)&&dsj r.F (nm x.b)))&&OC x.o.dst (DF ops r.o)&&OC r.o.dst (DF ops x.o)
def vOf(s:S):Option Nat->Option (List Nat)
 | none=>I []
 | some t=>U1 (s.T t)
def evD{Ω:Type}(C:Cx)(ops:Array Oper)(s0:S):List Oper->Nat->Nat->List Rec->S->(S->Option Ω)->Option Ω
 | [],_,b,_,s,k=>k { s with nid:=b }
 | o::l,i,b,acc,s,k=>match uA C ops s0 o i b acc s with
  | none=>U
  | some r=>match acc.all (λx=>chk ops x r)&&okO C o&&OC o.dst (DF ops o) with
   | true=>evG C (Wp Ω) ops o b s λs'=>(vOf s' o.dst).bind λV=>evD C ops s0 l (i+1) (b+16) ({ r with V:=V } ::acc) s' k
   | false=>U
abbrev Sch:=List<|Nat×Sh
abbrev Lv(c:Sch):Type:=LTs (c.map (·.2))
def oh(H:Hp)(T:Nat->AV):(c:Sch)->Option (Lv c)
 | []=>I ()
 | (t,h)::c=>(Bp T H h<|T t).bind λx=>(oh H T c).bind λxs=>I (x,xs)
def Oy(H:Hp)(T:Nat->AV):Sch->List Nat
 | []=>[]
 | (t,h)::c=>CV H h (T t)++Oy H T c
def kg(H:Hp)(T:Nat->AV):Sch->List Nat
 | []=>[]
 | (t,h)::c=>Cn H h (T t)++kg H T c
def Lx(T:Nat->AV)(H:Hp)(b:Nat):(c:Sch)->Lv c->(Nat->AV)×Hp×Nat
 | [],_=>(T,H,b)
 | (t,h)::c,x=>match BL T H b h x.1 with
  | (v,H,b)=>Lx (upd T t v) H b c x.2
def mkS(n:Nat)(p:List Nat)(c:Sch)(x:Lv c):S:=match Lx (λ_=> .un) (λ_=>U) 0 c x with
 | (T,H,b)=>{ n:=n,T:=T,H:=H,nid:=b,st:=[],pins:=p,gs:=λ_=>A3 }
def ze(n:Nat)(c:Sch):Bool:=Mw (c.map (·.1))&&KJ (c.map (·.2))&&c.all λx=>I9 x.1 n
def rdS(c:Sch)(s:S):Option (Lv c):=match s.st,Mw (Oy s.H s.T c)&&off (kg s.H s.T c) (Oy s.H s.T c),ze s.n c with
 | [],A1,A1=>oh s.H s.T c
 | _,_,_=>U
structure Loop where
 sch:Sch
 Jp:Sch
 xid:Nat
 Jr:Sch
 run:Lv sch->Option (Lv Jr ⊕ Lv Jp)
inductive Adv where
 | nil
 | one (a:Adv)
 | two (a b:Adv)
 | join (c:Sch) (a b:Adv)
 | loop (l:Loop)
def Adv.a:Adv->Adv
 | .one a=>a
 | .two a _=>a
 | .join _ a _=>a
 | _=> .nil
def Adv.z:Adv->Adv
 | .two _ b=>b
 | .join _ _ b=>b
 | _=> .nil
structure Kt (Ω:Type) where
 nrm:S->Option Ω
 ret:S->Option Ω
 ext:Nat->S->Option Ω
def BF{Ω X:Type}(f:X->Option Ω)(m:Option (Ω ⊕ X)):Option Ω:=m.bind λr=>match r with
 | .inl o=>I o
 | .inr x=>f x
def AO{A D Ω:Type}(m:Option (A ⊕ D))(f:A->Option Ω)(g:D->Option Ω):Option Ω:=m.bind λr=>match r with
 | .inl a=>f a
 | .inr b=>g b
def Ho{X Y:Type}(b:X->Option (X ⊕ Y)):Nat->X->Option Y
 | 0,_=>U
 | n+1,x=>(b x).bind λr=>match r with
  | .inl y=>Ho b n y
  | .inr z=>I z
open Classical in
def AW {X Y:Type} (b:X->Option (X ⊕ Y)) (x:X):Option Y:=
 if h:∃n y,Ho b n x=I y then I (NT<|It h) else U
def evk(C:Cx)(inl:(Ω:Type)->Inl Ω):Code->(Ω:Type)->Adv->Kt Ω->S->Option Ω
 | .skip,_,_,k,s=>k.nrm s
 | .region _ ops A3,Ω,_,k,s=>Ot C (inl Ω) ops ops.toList s k.nrm
 | .region _ ops A1,_,_,k,s=>evD C ops ((Rp C ops s).foldl S.freeze s) ops.toList 0 s.nid [] ((Rp C ops s).foldl S.freeze s) k.nrm
 | .seq a b,Ω,.join c u v,k,s=>
  BF (λx=>evk C inl b Ω v k<|mkS s.n s.pins c x) (evk C inl a (Ω ⊕ Lv c) u { nrm:=λs=>(rdS c s).bind λx=>I<|.inr x,ret:=λs=>(k.ret s).bind λo=>I<|.inl o,ext:=λj s=>(k.ext j s).bind λo=>I (.inl o) } s)
 | .seq a b,Ω,v,k,s=>evk C inl a Ω v.a { k with nrm:=evk C inl b Ω v.z k } s
 | .cond c x y,Ω,v,k,s=>match s.ev c with
  | .lit (.bool b)=>if b then evk C inl x Ω v.a k s else evk C inl y Ω v.z k s
  | _=>U
 | .block id c,Ω,v,k,s=>evk C inl c Ω v.a { k with ext:=λj s=>match Aj j id with
  | true=>k.nrm s
  | false=>k.ext j s } s
 | .loop _,_,.loop l,k,s=>(rdS l.sch s).bind λx=>AO (l.run x) (λy=>k.ret<|mkS s.n s.pins l.Jr y) λy=>k.ext l.xid (mkS s.n s.pins l.Jp y)
 | .exit id,_,_,k,s=>k.ext id s
 | .ret,_,_,k,s=>k.ret s
 | _,_,_,_,_=>U
def RM(P:Program)(s:S):List ResultVar->Option (List AV)
 | []=>I []
 | .tmp t::l=>(RM P s l).bind λvs=>I<|s.T t::vs
 | .cell a t::l=>(Jv P s.H t<|s.T a).bind λv=>(RM P s l).bind λvs=>I<|v::vs
def Dz(i:Nat):List Sh->List Nat
 | []=>[]
 | h::ps=>match Vm h with
  | true=>i::Dz (i+1) ps
  | false=>Dz (i+1) ps
def Q6(n:Nat)(ps:List Sh)(x:LTs ps):S:=match Ak (λ_=> .un) (λ_=>U) 0 ps x with
 | (vs,H,b)=>{ n:=n,T:=λt=>(vs[t]?).getD Dp,H:=H,nid:=b,st:=[],pins:=Dz 0 ps,gs:=λ_=>A3 }
def fin(P:Program)(fn:Func)(m:Da)(s:S):Option (LTs m.rs×LTs (B6 m.ps)):=
 (RM P s fn.results.toList).bind λvs=>
 match Mw (Bm s.H (m.rs++B6 m.ps)<|vs++(Dz 0 m.ps).map s.T)&&off (Cz s.H (m.rs++B6 m.ps)<|vs++(Dz 0 m.ps).map s.T) (Bm s.H (m.rs++B6 m.ps)<|vs++(Dz 0 m.ps).map s.T) with
 | true=>(Fv s.T s.H m.rs vs).bind λr=>(Fv s.T s.H (B6 m.ps)<|(Dz 0 m.ps).map s.T).bind λq=>I (r,q)
 | false=>U
def evF(C:Cx)(inl:(Ω:Type)->Inl Ω)(fn:Func)(body:Code)(v:Adv)(m:Da)(x:LTs m.ps):Option (LTs m.rs×LTs (B6 m.ps)):=
 evk C inl body _ v { nrm:=fin C.P fn m,ret:=fin C.P fn m,ext:=λ_ _=>U } (Q6 fn.ntmps m.ps x)
def cN(C:Cx)(inl:(Ω:Type)->Inl Ω)(fn:Func)(v:Adv)(m:Da)(x:LTs m.ps):Option (LTs m.rs×LTs (B6 m.ps)):=
 match fn.body with
 | some b=>evF C inl fn b v m x
 | none=>U
def OP:List Nat->Code->Code
 | [],c=>c
 | 0::l,.seq a _=>OP l a
 | 1::l,.seq _ b=>OP l b
 | 0::l,.cond _ a _=>OP l a
 | 1::l,.cond _ _ b=>OP l b
 | 0::l,.block _ a=>OP l a
 | 0::l,.loop a=>OP l a
 | _::_,c=>c
def LD(fn:Func):Code:=fn.body.getD .skip
def evL(C:Cx)(inl:(Ω:Type)->Inl Ω)(n:Nat)(p:List Nat)(c:Code)(v:Adv)(l:Loop)(x:Lv l.sch):Option (Lv l.sch ⊕ (Lv l.Jr ⊕ Lv l.Jp)):=
 evk C inl c _ v { nrm:=λs=>(rdS l.sch s).bind λy=>I<|.inl y,ret:=λs=>(rdS l.Jr s).bind λy=>I<|.inr<|.inl y,ext:=λj s=>match Aj j l.xid with
  | true=>(rdS l.Jp s).bind λy=>I<|.inr<|.inr y
  | false=>U } (mkS n p l.sch x)
def AF:(Ω:Type)->Inl Ω:=Wp
def OL:AV->AV
 | .gd _ _ _=> .un
 | v=>v
def plB:AV->Bool
 | .tup _=>A3
 | .gd _ _ _=>A3
 | _=>A1
def Nc(C:Cx):Nat->(Ω:Type)->Inl Ω
 | 0=>AF
 | n+1=>λΩ f d as s k=>match C.P.funcs[f]? with
  | none=>U
  | some fn=>match fn.body,fn.name == "runtime.NumGoroutine" with
   | some body,A3=>
    let back:S->Option Ω:=λs'=>match s'.st,RM C.P s' fn.results.toList with
     | T::st,I vs=>match vs.all plB with
      | true=>k ({ s' with n:=s.n,T:=λt=>OL<|T t,st:=st,pins:=s.pins,gs:=λ_=>A3 }.put d<|Lk vs)
      | false=>U
     | _,_=>U
    match Aj as.length fn.params.size&&E0 as.length fn.ntmps&&as.all plB with
    | true=>evk C (Nc C n) body Ω .nil { nrm:=back,ret:=back,ext:=λ_ _=>U } { s with n:=fn.ntmps,T:=λt=>(as[t]?).getD Dp,st:=s.T::s.st,pins:=[],gs:=λ_=>A3 }
    | false=>U
   | _,_=>U
end Go.VS
end
