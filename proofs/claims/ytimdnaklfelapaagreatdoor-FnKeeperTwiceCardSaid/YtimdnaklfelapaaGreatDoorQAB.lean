/- Part 2. -/
import Derived.Orders
import Derived.Test.YtimdnaklfelapaaGreatDoorQAA
open BitVec renaming ofInt→av5
open Classical renaming choose_spec→av9,choose→axs
open Go.Region renaming binds→awg
open List renaming replicate→au0
open Nat renaming beq→auW,ble→awt,blt→axv,land→ayG,lor→avt,min→awD
open UInt8 renaming ofNat→axc
set_option linter.unusedVariables false
set_option linter.unusedSimpArgs false
set_option linter.defProp false
noncomputable section
namespace Go.VS
open Go
def upd{α:Type}(f:Nat→α)(i:Nat)(v:α):Nat→α:=fun j=>match auW j i with
 | true=>v
 | false=>f j
structure S where
 n:Nat
 T:Nat→AV
 H:Hp
 nid:Nat
 st:List (Nat→AV)
 pins:List Nat
 gs:Nat→Bool
def akG:Value→Bool
 | .agg _=>false
 | .tuple _=>false
 | _=>true
def ofV:Value→AV
 | .agg cs=>match cs.toList.all akG with
  | true=> .agg (cs.toList.map .lit)
  | false=> .un
 | v=> .lit v
def S.ev(s:S):Operand→AV
 | .tmp t=>s.T t
 | .const v=>ofV v
 | _=> .un
def S.put(s:S)(d:Option Nat)(v:AV):S:=match d with
 | none=>s
 | some t=>{ s with T:=upd s.T t v }
def S.has(s:S)(d:Option Nat):Bool:=match d with
 | none=>true
 | some t=>axv t s.n&& !(s.pins.any fun p=>auW p t)&& !(s.gs t)
def gj(H:Hp)(b:Nat):List Ob→Hp
 | []=>H
 | o::os=>gj (upd H b (some o)) (b+1) os
def qI(f:AV→AV):AV→AV
 | .agg cs=> .agg (cs.map f)
 | v=>f v
def rY(f:AV→AV):AV→AV
 | .tup vs=> .tup (vs.map (qI f))
 | v=>qI f v
def yi(f:AV→AV):AV→AV
 | .gd g w v=> .gd g w (rY f v)
 | v=>rY f v
def iY(f:AV→AV):Option Ob→Option Ob
 | some (.box e cs)=>some (.box e (cs.map f))
 | o=>o
def S.map(s:S)(f:AV→AV):S:=
 { s with T:=fun t=>yi f (s.T t),H:=fun j=>iY f (s.H j),st:=s.st.map fun T t=>yi f (T t) }
def S.aop(s:S)(id:Nat)(o:Option Ob):S:={ s with H:=upd s.H id o }
def kl1(id:Nat):AV→AV
 | .own j=>match auW j id with
  | true=> .un
  | false=> .own j
 | .ptr j z i o=>match auW j id with
  | true=> .un
  | false=> .ptr j z i o
 | v=>v
def fz1(id:Nat)(k:K)(xs:List (Tof k)):AV→AV
 | .own j=>match auW j id with
  | true=> .sl k xs
  | false=> .own j
 | .ptr j z i o=>match auW j id with
  | true=> .un
  | false=> .ptr j z i o
 | v=>v
def S.kill(s:S)(id:Nat):S:=(s.map (kl1 id)).aop id none
def S.freeze(s:S)(id:Nat):S:=match s.H id with
 | some (.row _ _ k xs)=>(s.map (fz1 id k xs)).aop id none
 | _=>s.kill id
def Yp(P:Program)(t:TypeId):Option Bool:=match P.underlying t with
 | some (.struct _)=>some true
 | some (.array _ _)=>some true
 | some _=>some false
 | none=>none
def pe(P:Program)(t:TypeId)(f:Nat):Option Field:=match P.underlying t with
 | some (.struct fs)=>fs[f]?
 | _=>none
def mc:AV→Option (List AV)
 | .un=>none
 | .gd _ _ _=>none
 | .lit (.tuple _)=>none
 | .lit (.agg _)=>none
 | .tup _=>none
 | .arr _ _=>none
 | .agg cs=>some cs
 | v=>some [v]
def xE(P:Program)(t:TypeId):Option (List AV):=(P.info? t).bind fun i=>i.zero.bind fun z=>match z.cells.toList.all akG with
 | true=>some (z.cells.toList.map .lit)
 | false=>none
def aj8:AV→AV→Bool
 | .lit (.int k n),.lit (.int k' m)=>decide (k=k')&&decide (n=m)
 | .lit (.bool a),.lit (.bool b)=>a == b
 | .lit (.string a),.lit (.string b)=>auW a.size 0&&auW b.size 0
 | .lit (.slice none 0 0),.sl _ []=>true
 | _,_=>false
def ZG:List AV→List AV→Bool
 | [],[]=>true
 | a::l,b::m=>aj8 a b&&ZG l m
 | _,_=>false
def zok(P:Program)(t:TypeId)(k:K):Bool:=match xE P t with
 | some zs=>ZG zs (enc k (dfl k))
 | none=>false
def fC(P:Program)(t:TypeId):Option TypeId:=match P.underlying t with
 | some (.slice e)=>some e
 | _=>none
def inb(i:Int)(n:Nat):Bool:=decide (0≤i)&&decide (i < (n:Int))
def bt(s:auB)(i:Int):Int:=((s.data.toList.getD i.toNat 0).toNat:Int)
def rd{α:Type}(d:α)(xs:List α)(i:Int):α:=xs.getD i.toNat d
def aL(s:auB):List Int:=s.data.toList.map fun b=>(b.toNat:Int)
def eS(xs:List Int):auB:=⟨(xs.map fun n=>axc n.toNat).toArray⟩
def vQ(k:IntKind)(a b:Int):Int:=k.wrap ((av5 k.bits a ^^^ av5 k.bits b).toNat:Int)
def anb(k:IntKind)(a b:Int):Int:=k.wrap ((av5 k.bits a &&& av5 k.bits b).toNat:Int)
def ior(k:IntKind)(a b:Int):Int:=k.wrap ((av5 k.bits a ||| av5 k.bits b).toNat:Int)
def w64(n:Int):Int:=IntKind.i64.wrap n
def w8(n:Int):Int:=IntKind.u8.wrap n
def an(n:Nat):Bool:=decide (n≤4294967296)
abbrev PR:=Option (Bool×AV×List Ob)
def okA(v:AV):PR:=some (true,v,[])
def okN:AV→PR
 | .gd _ _ _=>none
 | v=>okA v
def wW(P:Program)(t:TypeId)(cs:List AV)(o:Nat):Option AV:=match Yp P t with
 | some true=>match awt (o+P.cellsOf t) cs.length&&awt 1 (P.cellsOf t) with
  | true=>some (.agg ((cs.drop o).take (P.cellsOf t)))
  | false=>none
 | some false=>cs[o]?
 | none=>none
def F4(P:Program)(H:Hp)(t:TypeId):AV→Option AV
 | .ipt k x o=>wW P t (enc k x) o
 | .ptr id z i o=>match H id with
  | some (.box _ cs)=>match i with
   | 0=>wW P t cs o
   | _=>none
  | some (.row _ _ k xs)=>match auW z (ks k) with
   | true=>wW P t (enc k (xs.getD i (dfl k))) o
   | false=>none
  | some (.arr e k xs)=>match P.underlying t with
   | some (.array _ _)=>match auW e t&&awt 1 (P.cellsOf t),i,o with
    | true,0,0=>some (.arr k xs)
    | _,_,_=>none
   | _=>match auW z (ks k) with
    | true=>wW P t (enc k (xs.getD i (dfl k))) o
    | false=>none
  | none=>none
 | _=>none
def ajY(op:BinOp)(k:IntKind)(a b:Int):PR:=match op with
 | .add=>okA (.lit (.int k (k.wrap (a+b))))
 | .sub=>okA (.lit (.int k (k.wrap (a - b))))
 | .mul=>okA (.lit (.int k (k.wrap (a * b))))
 | .quo=>some (!decide (b=0),.lit (.int k (k.wrap (a.tdiv b))),[])
 | .rem=>some (!decide (b=0),.lit (.int k (a.tmod b)),[])
 | .xor=>okA (.lit (.int k (vQ k a b)))
 | .and=>okA (.lit (.int k (anb k a b)))
 | .or=>okA (.lit (.int k (ior k a b)))
 | .eql=>okA (.b (decide (a=b)))
 | .neq=>okA (.b (!decide (a=b)))
 | .lss=>okA (.b (decide (a < b)))
 | .leq=>okA (.b (decide (a≤b)))
 | .gtr=>okA (.b (decide (b < a)))
 | .geq=>okA (.b (decide (b≤a)))
 | _=>none
def ajX(op:BinOp)(a b:auB):PR:=match op with
 | .add=>some (decide (a.size+b.size≤4611686018427387904),.s (a++b),[])
 | .eql=>okA (.b (decide (a=b)))
 | .neq=>okA (.b (!decide (a=b)))
 | _=>none
def eqC:List AV→List AV→Option Bool
 | [],[]=>some true
 | .lit (.int k a)::l,.lit (.int k' b)::m=>match decide (k=k') with
  | true=>(eqC l m).bind fun r=>some (decide (a=b)&&r)
  | false=>none
 | .lit (.bool a)::l,.lit (.bool b)::m=>(eqC l m).bind fun r=>some (decide (a=b)&&r)
 | .lit (.string a)::l,.lit (.string b)::m=>(eqC l m).bind fun r=>some (decide (a=b)&&r)
 | _,_=>none
def afc(P:Program):Nat→List Field→List AV→Bool
 | _,[],_=>true
 | n,f::fs,c::cs=>(match P.underlying f.type,c with
  | some .bool,.lit (.bool _)=>true
  | some (.int _),.lit (.int _ _)=>true
  | some .string,.lit (.string _)=>true
  | _,_=>false)&&auW f.offset n&& !(f.name == "_")&&afc P (n+1) fs cs
 | _,_,_=>false
def ajp(P:Program)(t:TypeId)(cs:List AV):Bool:=match P.underlying t with
 | some (.struct fs)=>afc P 0 fs.toList cs&&auW fs.size cs.length&& !P.stoodInHeld t&& !P.eqGuardType P.depth t
 | _=>false
def aes(P:Program)(op:BinOp)(t:TypeId):AV→AV→PR
 | .lit (.int k a),.lit (.int k' b)=>match decide (k=k') with
  | true=>ajY op k a b
  | false=>none
 | .lit (.string a),.lit (.string b)=>ajX op a b
 | .lit (.bool a),.lit (.bool b)=>match P.underlying t,op with
  | some .bool,.eql=>okA (.b (decide (a=b)))
  | some .bool,.neq=>okA (.b (!decide (a=b)))
  | _,_=>none
 | .agg a,.agg b=>match ajp P t a,auW a.length b.length,eqC a b,op with
  | true,true,some r,.eql=>okA (.b r)
  | true,true,some r,.neq=>okA (.b (!r))
  | _,_,_,_=>none
 | _,_=>none
def unA:UnOp→AV→PR
 | .not,.lit (.bool b)=>okA (.b (!b))
 | .neg,.lit (.int k n)=>okA (.lit (.int k (k.wrap (0 - n))))
 | _,_=>none
def tL(g:Nat)(w:Bool):AV→AV
 | .gd g' w' v=>match auW g g',w == w' with
  | true,true=>v
  | _,_=> .gd g' w' v
 | v=>v
def Oe(w:Bool)(v:AV):Operand→AV
 | .tmp g=>tL g w v
 | _=>v
def JL:AV→Option Bool
 | .lit (.bool b)=>some b
 | _=>none
def TP(ρ:Operand→AV)(c a b:Operand):PR:=match ρ c,a,b with
 | .lit (.bool q),.const (.bool true),b=>match JL (Oe false (ρ b) c) with
  | some y=>okA (.b (q||y))
  | none=>match q with
   | true=>okA (.b true)
   | false=>okN (ρ b)
 | .lit (.bool q),a,.const (.bool false)=>match JL (Oe true (ρ a) c) with
  | some x=>okA (.b (q&&x))
  | none=>match q with
   | true=>okN (ρ a)
   | false=>okA (.b false)
 | .lit (.bool q),a,b=>match q with
  | true=>okN (ρ a)
  | false=>okN (ρ b)
 | _,_,_=>none
def qf(ρ:Operand→AV):Nat→List (Nat×Operand)→Option (List AV)
 | _,[]=>some []
 | n,(i,x)::l=>match auW i n with
  | true=>(qf ρ (n+1) l).bind fun vs=>some (ρ x::vs)
  | false=>none
def xu(k:K):List AV→Option (List (Tof k))
 | []=>some []
 | v::l=>(mc v).bind fun cs=>(dec (fun _=>none) k cs).bind fun x=>(xu k l).bind fun xs=>some (x::xs)
def mJ(cs:List AV)(o:Nat)(ys:List AV):List AV:=cs.take o++ys++cs.drop (o+ys.length)
def qC(P:Program)(ρ:Operand→AV)(t:TypeId):List (Nat×Operand)→List AV→Option (List AV)
 | [],cs=>some cs
 | (i,x)::l,cs=>(pe P t i).bind fun f=>(mc (ρ x)).bind fun ys=>
  match auW ys.length (P.cellsOf f.type)&&awt (f.offset+ys.length) cs.length with
  | true=>qC P ρ t l (mJ cs f.offset ys)
  | false=>none
def Sp(lo hi:Option AV)(n:Nat):Option (Bool×Int×Int):=match lo,hi with
 | none,none=>some (true,0,n)
 | some (.lit (.int _ l)),none=>some (decide (0≤l)&&decide (l≤(n:Int)),l,n)
 | none,some (.lit (.int _ h))=>some (decide (0≤h)&&decide (h≤(n:Int)),0,h)
 | some (.lit (.int _ l)),some (.lit (.int _ h))=>some ((decide (0≤h)&&decide (h≤(n:Int)))&&(decide (0≤l)&&decide (l≤h)),l,h)
 | _,_=>none
def PV{α:Type}(lo hi:Option AV)(l h:Int)(xs:List α):List α:=match lo,hi with
 | none,none=>xs
 | some _,none=>xs.drop l.toNat
 | none,some _=>xs.take h.toNat
 | some _,some _=>(xs.take h.toNat).drop l.toNat
def gw(P:Program)(H:Hp)(t:TypeId)(v:AV):Bool:=match P.underlying t,v with
 | some .string,.lit (.string _)=>true
 | some (.slice e),.sl k _=>auW (P.cellsOf e) (ks k)
 | some (.slice e),.lit (.slice _ _ _)=>awt 1 (P.cellsOf e)
 | some (.slice e),.own id=>match H id with
  | some (.row _ _ k _)=>auW (P.cellsOf e) (ks k)
  | _=>false
 | _,_=>false
def Ol(lo hi:Option AV):AV→PR
 | .lit (.string s)=>(Sp lo hi s.size).bind fun(c,l,h)=>some (c,.s (s.extract l.toNat h.toNat),[])
 | .sl k xs=>(Sp lo hi xs.length).bind fun(c,l,h)=>some (c,.sl k (PV lo hi l h xs),[])
 | .lit (.slice none 0 0)=>(Sp lo hi 0).bind fun(c,_,_)=>some (c,.lit (.slice none 0 0),[])
 | _=>none
def CD(P:Program)(src dst:TypeId)(b:AV):PR:=match P.underlying src,P.underlying dst,b with
 | some _,some (.int k),.lit (.int _ n)=>okA (.lit (.int k (k.wrap n)))
 | some .string,some .string,.lit (.string s)=>okA (.s s)
 | some .string,some (.slice e),.lit (.string s)=>match P.underlying e with
  | some (.int .u8)=>some (an s.size,.own 0,[.row e true .u8 (aL s)])
  | _=>none
 | _,_,_=>none
def agS(P:Program)(t:TypeId)(i:Int):AV→PR
 | .lit (.string s)=>match P.underlying t with
  | some .string=>some (inb i s.size,.y (bt s i),[])
  | _=>none
 | .arr k xs=>match P.underlying t with
  | some (.array n e)=>match auW (ks k) 1&&auW (P.cellsOf e) 1,Yp P e with
   | true,some false=>(wW P e (enc k (rd (dfl k) xs i)) 0).bind fun v=>some (inb i xs.length&&inb i n,v,[])
   | _,_=>none
  | _=>none
 | _=>none
def te(P:Program)(H:Hp)(t:TypeId)(i:Int):AV→PR
 | .sl k xs=>match P.underlying t with
  | some (.slice e)=>match auW (P.cellsOf e) (ks k) with
   | true=>some (inb i xs.length,.ipt k (rd (dfl k) xs i) 0,[])
   | false=>none
  | _=>none
 | .own id=>match P.underlying t,H id with
  | some (.slice e),some (.row _ _ k xs)=>match auW (P.cellsOf e) (ks k) with
   | true=>some (inb i xs.length,.ptr id (ks k) i.toNat 0,[])
   | false=>none
  | _,_=>none
 | .ptr id z 0 0=>match P.underlying t,H id with
  | some (.array n e),some (.arr e' k xs)=>match auW (P.cellsOf e) (ks k)&&auW (P.cellsOf t) (n * ks k)&&auW e' t with
   | true=>some (inb i xs.length,.ptr id (ks k) i.toNat 0,[])
   | false=>none
  | _,_=>none
 | _=>none
def EJ(P:Program)(ρ:Operand→AV)(H:Hp)(c:Call):PR:=match c.callee,c.args.toList,c.argTypes.toList with
 | .builtin .len,[x],[t]=>match P.underlying t,ρ x with
  | some .string,.lit (.string s)=>okA (.i s.size)
  | some (.slice _),.sl _ xs=>okA (.i xs.length)
  | some (.slice _),.lit (.slice none 0 0)=>okA (.i 0)
  | some (.slice _),.own id=>match H id with
   | some (.row _ _ _ xs)=>okA (.i xs.length)
   | _=>none
  | some (.array n _),_=>okA (.i n)
  | _,_=>none
 | .builtin .min,[x,y],_=>match ρ x,ρ y with
  | .lit (.int k a),.lit (.int k' c)=>match decide (k=k') with
   | true=>okA (.lit (.int k (if c < a then c else a)))
   | false=>none
  | _,_=>none
 | .builtin .max,[x,y],_=>match ρ x,ρ y with
  | .lit (.int k a),.lit (.int k' c)=>match decide (k=k') with
   | true=>okA (.lit (.int k (if a < c then c else a)))
   | false=>none
  | _,_=>none
 | _,_,_=>none
def bY(P:Program)(kd:TypeId→Option K)(ρ:Operand→AV)(H:Hp)(b:Nat):Op→PR
 | .move x=>okN (ρ x)
 | .assign x=>okN (ρ x)
 | .pick c x y=>TP ρ c x y
 | .alloc t=>match P.underlying t with
  | some (.array n e)=>(kd e).bind fun k=>(xE P t).bind fun zs=>match ZG zs ((au0 n (dfl k)).flatMap (enc k))&&auW (P.cellsOf t) (n * ks k)&&awt 1 n with
   | true=>some (true,.ptr b (ks k) 0 0,[.arr t k (au0 n (dfl k))])
   | false=>none
  | _=>(xE P t).bind fun zs=>some (true,.ptr b zs.length 0 0,[.box t zs])
 | .box t x=>(mc (ρ x)).bind fun cs=>some (true,.ptr b cs.length 0 0,[.box t cs])
 | .build t ps=>(xE P t).bind fun zs=>match P.underlying t with
  | some (.struct fs)=>match fs.toList.all fun f=>(P.info? f.type).isSome with
   | true=>(qC P ρ t ps.toList zs).bind fun cs=>okA (.agg cs)
   | false=>none
  | _=>none
 | .buildSlice t len ps=>(fC P t).bind fun e=>(kd e).bind fun k=>(qf ρ 0 ps.toList).bind fun vs=>(xu k vs).bind fun xs=>
  match auW vs.length len&&auW (P.cellsOf e) (ks k)&&awt len 65536&&zok P e k with
  | true=>some (true,.own b,[.row e false k xs])
  | false=>none
 | .load t p=>(F4 P H t (ρ p)).bind okA
 | .nilCheck p=>match ρ p with
  | .ptr id z i o=>okA (.ptr id z i o)
  | .ipt k x o=>okA (.ipt k x o)
  | _=>none
 | .binOp op t x y _=>aes P op t (ρ x) (ρ y)
 | .unOp op _ x=>unA op (ρ x)
 | .convert src dst x=>match P.underlying src,P.underlying dst with
  | some (.slice e),some .string=>match P.underlying e with
   | some (.int .u8)=>(iT H .u8 (ρ x)).bind fun xs=>okA (.s (eS xs))
   | _=>none
  | _,_=>match CD P src dst (ρ x) with
   | some (c,.own _,os)=>some (c,.own b,os)
   | r=>r
 | .makeSlice t l c=>match ρ l,ρ c,(match l,c with
   | .tmp i,.tmp j=>auW i j
   | _,_=>false) with
  | .lit (.int .i64 n),_,true=>(fC P t).bind fun e=>(kd e).bind fun k=>
   match zok P e k&&auW (P.cellsOf e) (ks k)&&awt (P.bytesOf e) 256 with
   | true=>some (decide (0≤n)&&decide (n≤4294967296),.own b,[.row e false k (au0 n.toNat (dfl k))])
   | false=>none
  | .lit (.int .i64 n),.lit (.int .i64 m),false=>match decide (n=m) with
   | true=>(fC P t).bind fun e=>(kd e).bind fun k=>
    match zok P e k&&auW (P.cellsOf e) (ks k)&&awt (P.bytesOf e) 256 with
    | true=>some (decide (0≤n)&&decide (n≤4294967296),.own b,[.row e false k (au0 n.toNat (dfl k))])
    | false=>none
   | false=>none
  | _,_,_=>none
 | .slice t x lo hi none=>match gw P H t (ρ x) with
  | true=>Ol (lo.map ρ) (hi.map ρ) (ρ x)
  | false=>none
 | .fieldAddr t x f=>(pe P t f).bind fun fd=>match awt 1 (P.cellsOf fd.type) with
  | true=>match ρ x with
   | .ptr id z i o=>okA (.ptr id z i (o+fd.offset))
   | .ipt k v o=>okA (.ipt k v (o+fd.offset))
   | _=>none
  | false=>none
 | .field t x f=>(pe P t f).bind fun fd=>match ρ x with
  | .agg cs=>(wW P fd.type cs fd.offset).bind okA
  | _=>none
 | .indexAddr t x ix=>match ρ ix with
  | .lit (.int _ i)=>te P H t i (ρ x)
  | _=>none
 | .index t x ix=>match ρ ix with
  | .lit (.int _ i)=>agS P t i (ρ x)
  | _=>none
 | .extract x i=>match ρ x with
  | .tup vs=>(vs[i]?).bind okA
  | _=>none
 | .call c=>EJ P ρ H c
 | _=>none
abbrev qU:AV:= .lit undef
def vH:AV→Option Nat
 | .own id=>some id
 | _=>none
def nop:AV→Bool
 | .lit (.pointer (some _))=>false
 | .lit _=>true
 | .sl _ _=>true
 | .own _=>true
 | _=>false
def ajq(o n:Nat)(cs:List AV):Bool:=awt (o+n) cs.length&&(awt 1 o||nop (cs.headD (.lit (.bool false))))
def qV(P:Program)(t:TypeId)(s:S):AV→AV→Option S
 | .ptr id z i o,x=>match s.H id with
  | some (.box e cs)=>match i with
   | 0=>(mc x).bind fun ys=>match auW ys.length (P.cellsOf t)&&awt 1 (P.cellsOf t)&&ajq o ys.length cs with
    | true=>some (s.aop id (some (.box e (mJ cs o ys))))
    | false=>none
   | _=>none
  | some (.row e fz k xs)=>(mc x).bind fun ys=>match auW ys.length (P.cellsOf t)&&awt 1 (P.cellsOf t)&&awt (o+ys.length) (ks k)&&auW z (ks k)&& !((ys.filterMap vH).any fun j=>auW j id) with
   | true=>(dec s.H k (mJ (enc k (xs.getD i (dfl k))) o ys)).bind fun y=>
    some (((ys.filterMap vH).foldl S.freeze s).aop id (some (.row e fz k (xs.set i y))))
   | false=>none
  | some (.arr e k xs)=>(mc x).bind fun ys=>match auW ys.length (P.cellsOf t)&&awt 1 (P.cellsOf t)&&awt (o+ys.length) (ks k)&&auW z (ks k) with
   | true=>(dec (fun _=>none) k (mJ (enc k (xs.getD i (dfl k))) o ys)).bind fun y=>some (s.aop id (some (.arr e k (xs.set i y))))
   | false=>none
  | none=>none
 | _,_=>none
def Tt(H:Hp)(k:K):AV→Option (List (Tof k))
 | .lit (.string s)=>match k with
  | .u8=>some (aL s)
  | _=>none
 | v=>iT H k v
def tG(P:Program)(kd:TypeId→Option K)(t t2:TypeId)(s:S)(b:Nat)(x y:AV):Option (Bool×AV×S):=
 (fC P t).bind fun e=>(kd e).bind fun k=>(Tt s.H k y).bind fun ys=>
 match auW (P.cellsOf e) (ks k)&&awt (P.bytesOf e) 256&&zok P e k&&(match P.underlying t2 with
   | some .string=>true
   | some (.slice _)=>true
   | _=>false),x with
 | true,.lit (.slice none 0 0)=>some (an ys.length,.own b,s.aop b (some (.row e false k ys)))
 | true,.own id=>match s.H id,(match y with
   | .own j=>auW j id
   | _=>false) with
  | some (.row e' false k' xs),false=>match auW e e' with
   | true=>(CE k' k xs).bind fun xs=>some (an (xs.length+ys.length),.own id,(s.map (kl1 id)).aop id (some (.row e false k (xs++ys))))
   | false=>none
  | _,_=>none
 | _,_=>none
def Ju(P:Program)(t:TypeId)(s:S)(x y:AV):Option (AV×S):=match x with
 | .own id=>match s.H id,(match y with
   | .own j=>auW j id
   | _=>false) with
  | some (.row e fz k xs),false=>(fC P t).bind fun e'=>match auW (P.cellsOf e') (ks k) with
   | true=>(Tt s.H k y).bind fun ys=>some (.i (awD ys.length xs.length:Nat),s.aop id (some (.row e fz k (ys.take xs.length++xs.drop ys.length))))
   | false=>none
  | _,_=>none
 | _=>none
def mY(s:S)(id:Nat)(z:Bool)(lo hi:Option AV):Option (Bool×AV×S):=match s.H id with
 | some (.row e fz k xs)=>(Sp lo hi xs.length).bind fun(c,l,h)=>match z,hi with
  | true,none=>some (c,.own id,(s.map (kl1 id)).aop id (some (.row e fz k (PV lo hi l h xs))))
  | true,some _=>none
  | false,_=>some (c,.sl k (PV lo hi l h xs),s.freeze id)
 | _=>none
inductive Sh where
 | int (k:IntKind)
 | bool
 | str
 | sl (k:K)
 | row (e:TypeId) (k:K)
 | fz (k:K)
 | agg (l:List Sh)
 | an1 (e:TypeId) (k:K)
 | abx (e:TypeId) (k:K)
 | arr (k:K)
 | same (t:Nat)
 | box (e:TypeId) (l:List Sh)
mutual
abbrev LT:Sh→Type
 | .int _=>Int
 | .bool=>Bool
 | .str=>auB
 | .sl k=>List (Tof k)
 | .row _ k=>List (Tof k)
 | .fz k=>List (Tof k)
 | .an1 _ k=>List (Tof k)
 | .abx _ k=>List (Tof k)
 | .arr k=>List (Tof k)
 | .same _=>auC
 | .agg l=>LTs l
 | .box _ l=>LTs l
abbrev LTs:List Sh→Type
 | []=>auC
 | h::l=>LT h×LTs l
end
mutual
def eY (E:Nat→AV) (H:Hp):(h:Sh)→AV→Option (LT h)
 | .int k,.lit (.int k' n)=>match decide (k=k') with
  | true=>some n
  | false=>none
 | .bool,.lit (.bool b)=>some b
 | .str,.lit (.string s)=>some s
 | .sl k,.sl k' xs=>CE k' k xs
 | .sl _,.lit (.slice none 0 0)=>some []
 | .row _ _,.lit (.slice none 0 0)=>some []
 | .row e k,.own id=>match H id with
  | some (.row e' false k' xs)=>match auW e e' with
   | true=>CE k' k xs
   | false=>none
  | _=>none
 | .fz k,v=>iT H k v
 | .an1 e k,.own id=>match H id with
  | some (.row e' true k' xs)=>match auW e e' with
   | true=>CE k' k xs
   | false=>none
  | _=>none
 | .abx e k,.ptr id z 0 0=>match H id with
  | some (.arr e' k' xs)=>match auW e e'&&auW z (ks k) with
   | true=>CE k' k xs
   | false=>none
  | _=>none
 | .arr k,.arr k' xs=>CE k' k xs
 | .same t,.ptr id _ 0 0=>match E t with
  | .ptr id' _ 0 0=>match auW id id' with
   | true=>some ()
   | false=>none
  | _=>none
 | .agg l,.agg cs=>rV E H l cs
 | .box e l,.ptr id _ 0 0=>match H id with
  | some (.box e' cs)=>match auW e e' with
   | true=>rV E H l cs
   | false=>none
  | _=>none
 | _,_=>none
def rV (E:Nat→AV) (H:Hp):(l:List Sh)→List AV→Option (LTs l)
 | [],[]=>some ()
 | h::l,c::cs=>(eY E H h c).bind fun x=>(rV E H l cs).bind fun xs=>some (x,xs)
 | _,_=>none
end
mutual
def kD (H:Hp):Sh→AV→List Nat
 | .row _ _,.own id=>[id]
 | .an1 _ _,.own id=>[id]
 | .abx _ _,.ptr id _ 0 0=>[id]
 | .agg l,.agg cs=>cn H l cs
 | .box _ l,.ptr id _ 0 0=>match H id with
  | some (.box _ cs)=>cn H l cs++[id]
  | _=>[]
 | _,_=>[]
def cn (H:Hp):List Sh→List AV→List Nat
 | h::l,c::cs=>kD H h c++cn H l cs
 | _,_=>[]
end
mutual
def iG (H:Hp):Sh→AV→List Nat
 | .row _ _,.own id=>[id]
 | .an1 _ _,.own id=>[id]
 | .abx _ _,.ptr id _ 0 0=>[id]
 | .agg l,.agg cs=>dV H l cs
 | .box _ l,.ptr id _ 0 0=>match H id with
  | some (.box _ cs)=>dV H l cs
  | _=>[]
 | _,_=>[]
def dV (H:Hp):List Sh→List AV→List Nat
 | h::l,c::cs=>iG H h c++dV H l cs
 | _,_=>[]
end
mutual
def lG (H:Hp):Sh→AV→List Nat
 | .fz _,.own id=>[id]
 | .agg l,.agg cs=>eX H l cs
 | .box _ l,.ptr id _ 0 0=>match H id with
  | some (.box _ cs)=>eX H l cs
  | _=>[]
 | _,_=>[]
def eX (H:Hp):List Sh→List AV→List Nat
 | h::l,c::cs=>lG H h c++eX H l cs
 | _,_=>[]
end
def QC:List Nat→Bool
 | []=>true
 | a::l=> !(l.any fun b=>auW a b)&&QC l
def off(l m:List Nat):Bool:=l.all fun a=> !(m.any fun b=>auW a b)
mutual
def cY (E:Nat→AV) (H:Hp) (b:Nat):(h:Sh)→LT h→AV×Hp×Nat
 | .int k,n=>(.lit (.int k n),H,b)
 | .bool,x=>(.b x,H,b)
 | .str,s=>(.s s,H,b)
 | .sl k,xs=>(.sl k xs,H,b)
 | .row e k,xs=>(.own b,upd H b (some (.row e false k xs)),b+1)
 | .fz k,xs=>(.sl k xs,H,b)
 | .an1 e k,xs=>(.own b,upd H b (some (.row e true k xs)),b+1)
 | .abx e k,xs=>(.ptr b (ks k) 0 0,upd H b (some (.arr e k xs)),b+1)
 | .arr k,xs=>(.arr k xs,H,b)
 | .same t,_=>(E t,H,b)
 | .agg l,x=>match aC E H b l x with
  | (cs,H,b)=>(.agg cs,H,b)
 | .box e l,x=>match aC E H b l x with
  | (cs,H,b)=>(.ptr b cs.length 0 0,upd H b (some (.box e cs)),b+1)
def aC (E:Nat→AV) (H:Hp) (b:Nat):(l:List Sh)→LTs l→List AV×Hp×Nat
 | [],_=>([],H,b)
 | h::l,x=>match cY E H b h x.1 with
  | (c,H,b)=>match aC E H b l x.2 with
   | (cs,H,b)=>(c::cs,H,b)
end
mutual
def nC (E:Nat→AV) (H:Hp) (b:Nat):(h:Sh)→AV→LT h→AV×Hp×Nat
 | .box e l,.ptr id z 0 0,x=>match H id with
  | some (.box _ cs)=>match bL E H b l cs x with
   | (ds,H,b)=>(.ptr id z 0 0,upd H id (some (.box e ds)),b)
  | _=>(.un,H,b)
 | .same _,v,_=>(v,H,b)
 | h,_,x=>cY E H b h x
def bL (E:Nat→AV) (H:Hp) (b:Nat):(l:List Sh)→List AV→LTs l→List AV×Hp×Nat
 | [],_,_=>([],H,b)
 | h::l,cs,x=>match nC E H b h (cs.headD .un) x.1 with
  | (d,H,b)=>match bL E H b l cs.tail x.2 with
   | (ds,H,b)=>(d::ds,H,b)
end
def acd:Sh→Bool
 | .box _ _=>true
 | _=>false
abbrev bg:List Sh→List Sh
 | []=>[]
 | .box e l::ps=> .box e l::bg ps
 | .int _::ps=>bg ps
 | .bool::ps=>bg ps
 | .str::ps=>bg ps
 | .sl _::ps=>bg ps
 | .row _ _::ps=>bg ps
 | .fz _::ps=>bg ps
 | .an1 _ _::ps=>bg ps
 | .abx _ _::ps=>bg ps
 | .arr _::ps=>bg ps
 | .same _::ps=>bg ps
 | .agg _::ps=>bg ps
def fN:List Sh→List AV→List AV
 | .box _ _::ps,v::vs=>v::fN ps vs
 | _::ps,_::vs=>fN ps vs
 | _,_=>[]
def Zm:K→Bool
 | .half=>false
 | .keep=>false
 | .anx=>false
 | _=>true
mutual
def aan:Sh→Bool
 | .sl _=>true
 | .fz _=>true
 | .row _ k=> !Zm k
 | .an1 _ k=> !Zm k
 | .abx _ k=> !Zm k
 | .arr k=> !Zm k
 | .agg l=>dN l
 | .box _ l=>dN l
 | _=>false
def dN:List Sh→Bool
 | []=>false
 | h::l=>aan h||dN l
end
structure aoi where
 ps:List Sh
 rs:List Sh
 g:LTs ps→Option (LTs rs×LTs (bg ps))
def Lr:List AV→AV
 | [v]=>v
 | vs=> .tup vs
def E5(q:Bool)(ids:List Nat)(s:S):S:=match q with
 | true=>ids.foldl S.freeze s
 | false=>s
def yR{Ω:Type}(m:aoi)(s:S)(b:Nat)(d:Option Nat)(as:List AV)(k:S→Option Ω):Option Ω:=
 let E:Nat→AV:=fun i=>(as[i]?).getD .un
 match rV E s.H m.ps as,QC (cn s.H m.ps as)&&off (eX s.H m.ps as) (cn s.H m.ps as) with
 | some x,true=>(m.g x).bind fun r=>
  let s1:=(dV s.H m.ps as).foldl S.kill s
  let s2:S:=E5 (dN m.rs||dN (bg m.ps)) (eX s.H m.ps as) s1
  match bL E s2.H b (bg m.ps) (fN m.ps as) r.2 with
  | (_,H,b1)=>match aC E H b1 m.rs r.1 with
   | (vs,H,b2)=>match awt b2 (b+16) with
    | true=>k ({ s2 with H:=H }.put d (Lr vs))
    | false=>none
 | _,_=>none
structure Cx where
 P:Program
 kd:TypeId→Option K
 Γ:Nat→Option Nat→Option aoi
 cz:Nat→Bool
 sp:Nat→Bool
abbrev Inl(Ω:Type):=Nat→Option Nat→List AV→S→(S→Option Ω)→Option Ω
def AH(ρ:Operand→AV)(ps:List (Nat×Operand)):List Nat:=ps.flatMap fun p=>match ρ p.2 with
 | .agg cs=>cs.filterMap vH
 | v=>(vH v).toList
def jf{Ω:Type}(C:Cx)(inl:Inl Ω)(o:Oper)(b:Nat)(s:S)(k:S→Option Ω):Option Ω:=
 match s.has o.dst with
 | false=>none
 | true=>match o.op with
  | .store t p x=>match qV C.P t s (s.ev p) (s.ev x) with
   | some s=>k (s.put o.dst qU)
   | none=>none
  | .call c=>match c.callee,c.args.toList,c.argTypes.toList with
   | .value (.func f),as,_=>match C.Γ f o.dst with
    | some m=>yR m s b o.dst (as.map s.ev) k
    | none=>inl f o.dst (as.map s.ev) s k
   | .builtin .append,[x,y],[t,u]=>match tG C.P C.kd t u s b (s.ev x) (s.ev y) with
    | some (q,v,s)=>if q then k (s.put o.dst v) else none
    | none=>none
   | .builtin .copy,[x,y],[t,_]=>match Ju C.P t s (s.ev x) (s.ev y) with
    | some (v,s)=>k (s.put o.dst v)
    | none=>none
   | _,_,_=>match bY C.P C.kd s.ev s.H b o.op with
    | some (q,v,os)=>if q then k ({ s with H:=gj s.H b os }.put o.dst v) else none
    | none=>none
  | .slice t x lo hi none=>match s.ev x with
   | .own id=>match gw C.P s.H t (.own id) with
    | false=>none
    | true=>match mY s id (match o.dst with
     | some d=>C.cz d
     | none=>false) (lo.map s.ev) (hi.map s.ev) with
    | some (c,v,s)=>if c then k (s.put o.dst v) else none
    | none=>none
   | _=>match bY C.P C.kd s.ev s.H b (.slice t x lo hi none) with
    | some (c,v,os)=>if c then k ({ s with H:=gj s.H b os }.put o.dst v) else none
    | none=>none
  | .buildSlice t n ps=>
   let s:=(AH s.ev ps.toList).foldl S.freeze s
   match bY C.P C.kd s.ev s.H b (.buildSlice t n ps) with
   | some (c,v,os)=>if c then k ({ s with H:=gj s.H b os }.put o.dst v) else none
   | none=>none
  | op=>match bY C.P C.kd s.ev s.H b op with
   | some (c,v,os)=>if c then k ({ s with H:=gj s.H b os }.put o.dst v) else none
   | none=>none
mutual
def sa:Sh→Bool
 | .int _=>true
 | .bool=>true
 | .str=>true
 | .agg l=>F6 l
 | _=>false
def F6:List Sh→Bool
 | []=>true
 | h::l=>sa h&&F6 l
end
mutual
def ang:(h:Sh)→LT h
 | .int _=>(0:Int)
 | .bool=>false
 | .str=>noB
 | .sl _=>[]
 | .row _ _=>[]
 | .fz _=>[]
 | .an1 _ _=>[]
 | .abx _ _=>[]
 | .arr _=>[]
 | .same _=>()
 | .agg l=>DJ l
 | .box _ l=>DJ l
def DJ:(l:List Sh)→LTs l
 | []=>()
 | h::l=>(ang h,DJ l)
end
def spA(C:Cx)(b:Nat)(d:Option Nat)(ρ:Operand→AV)(H:Hp):Op→Option (Bool×AV)
 | .call c=>match c.callee,c.args.toList,c.argTypes.toList with
  | .value (.func f),as,_=>(C.Γ f d).bind fun m=>
   let E:Nat→AV:=fun i=>((as.map ρ)[i]?).getD .un
   match F6 m.rs&&(bg m.ps).isEmpty&&(dV H m.ps (as.map ρ)).isEmpty&&(cn H m.ps (as.map ρ)).isEmpty with
   | true=>(rV E H m.ps (as.map ρ)).bind fun x=>some ((m.g x).isSome,Lr (aC E H b m.rs ((m.g x).getD (DJ m.rs,DJ (bg m.ps))).1).1)
   | false=>none
  | .builtin .append,_,_=>none
  | .builtin .copy,_,_=>none
  | _,_,_=>match EJ C.P ρ H c with
   | some (q,v,[])=>some (q,v)
   | _=>none
 | .store _ _ _=>none
 | .buildSlice _ _ _=>none
 | .slice t x lo hi none=>match ρ x with
  | .own _=>none
  | _=>match bY C.P C.kd ρ H b (.slice t x lo hi none) with
   | some (q,v,[])=>some (q,v)
   | _=>none
 | op=>match bY C.P C.kd ρ H b op with
  | some (q,v,[])=>some (q,v)
  | _=>none
def eqW(c want:Bool):Bool:=match want with
 | true=>c
 | false=> !c
def aX(c q:Bool):Bool:=match q with
 | true=>true
 | false=> !c
def NM(ops:Array Oper)(s:S):Nat→Oper→Option Bool
 | 0,_=>none
 | n+1,o=>match o.guard with
  | none=>some true
  | some (j,want)=>(ops[j]?).bind fun oj=>oj.dst.bind fun g=>match s.T g with
   | .lit (.bool c)=>some (eqW c want)
   | .lit (.tuple _)=>some false
   | .gd g' w' (.lit (.bool c))=>match oj.guard with
    | some (j',w2)=>match (ops[j']?).bind (·.dst) with
     | some g2=>match auW g' g2,w' == w2 with
      | true,true=>(NM ops s n oj).bind fun b=>some (b&&eqW c want)
      | _,_=>none
     | none=>none
    | none=>none
   | _=>none
def ani(c:Option Bool)(q:Bool):Bool:=match c with
 | some c=>aX c q
 | none=>q
def amy:AV→Bool
 | .gd _ _ _=>false
 | _=>true
def S.narrow(s:S)(g:Nat)(w:Bool):S:={ s with T:=upd (fun t=>tL g w (s.T t)) g (.b w) }
def evG{Ω:Type}(C:Cx)(inl:Inl Ω)(ops:Array Oper)(o:Oper)(b:Nat)(s:S)(k:S→Option Ω):Option Ω:=
 match o.guard with
 | none=>jf C inl o b s k
 | some (j,want)=>match (ops[j]?).bind (·.dst),(match o.dst with
   | some d=>C.sp d
   | none=>false) with
  | none,_=>none
  | some g,true=>match { s with gs:=upd s.gs g true }.has o.dst,spA C b o.dst (s.narrow g want).ev s.H o.op with
   | true,some (q,v)=>match amy v with
    | true=>if ani (NM ops s 4 o) q then k { s.put o.dst (.gd g want v) with gs:=upd s.gs g true } else none
    | false=>none
   | _,_=>none
  | some g,false=>match s.T g with
   | .lit (.bool c)=>
    let yes:Option Ω:=jf C inl o b { s with T:=upd s.T g (.b want) } k
    let no:Option Ω:=match s.has o.dst with
     | true=>k ({ s with T:=upd s.T g (.b (!want)) }.put o.dst qU)
     | false=>none
    match want with
    | true=>if c then yes else no
    | false=>if c then no else yes
   | .lit (.tuple _)=>match s.has o.dst with
    | true=>k (s.put o.dst qU)
    | false=>none
   | _=>none
def Vq{Ω:Type}(C:Cx)(inl:Inl Ω)(ops:Array Oper):List Oper→S→(S→Option Ω)→Option Ω
 | [],s,k=>k s
 | o::l,s,k=>evG C inl ops o s.nid s fun s=>Vq C inl ops l { s with nid:=s.nid+16 } k
def aah(Ω:Type):Inl Ω:=fun _ _ _ _ _=>none
mutual
def eg:Sh→Bool
 | .agg _=>false
 | .same _=>false
 | .arr _=>false
 | .box _ l=>k0 l
 | _=>true
def k0:List Sh→Bool
 | []=>true
 | h::l=>eg h&&k0 l
end
def alI:Sh→Bool
 | .agg l=>k0 l
 | .arr _=>true
 | h=>eg h
def ZN:List Sh→Bool
 | []=>true
 | h::l=>alI h&&ZN l
def okS(m:aoi):Bool:=ZN m.rs&&k0 (bg m.ps)
def JR(H:Hp)(x y:AV):List Nat:=match x with
 | .ptr id _ _ _=>match H id with
  | some (.row _ _ _ _)=>id::((mc y).getD []).filterMap vH
  | _=>[id]
 | _=>[]
def fzl(q:Bool)(l:List Nat):List Nat:=match q with
 | true=>l
 | false=>[]
def TW(v:AV):List Nat:=(vH v).toList
def tJ(C:Cx)(s:S)(o:Oper):Option (List Nat):=match o.op with
 | .store _ p x=>some (JR s.H (s.ev p) (s.ev x))
 | .call c=>match c.callee,c.args.toList with
  | .value (.func f),as=>match C.Γ f o.dst with
   | some m=>match (bg m.ps).isEmpty with
    | true=>some (dV s.H m.ps (as.map s.ev)++fzl (dN m.rs||dN (bg m.ps)) (eX s.H m.ps (as.map s.ev)))
    | false=>none
   | none=>none
  | .builtin .append,x::_=>some (TW (s.ev x))
  | .builtin .copy,x::_=>some (TW (s.ev x))
  | _,_=>some []
 | .slice _ x _ _ none=>some (TW (s.ev x))
 | .buildSlice _ _ ps=>some (AH s.ev ps.toList)
 | _=>some []
def RH(C:Cx)(s:S)(o:Oper):List Nat:=match o.op with
 | .call c=>match c.callee,c.args.toList with
  | .value (.func f),as=>match C.Γ f o.dst with
   | some m=>dV s.H m.ps (as.map s.ev)++fzl (dN m.rs||dN (bg m.ps)) (eX s.H m.ps (as.map s.ev))
   | none=>[]
  | _,_=>[]
 | _=>[]
def okO(C:Cx)(o:Oper):Bool:=match o.op with
 | .call c=>match c.callee with
  | .value (.func f)=>match C.Γ f o.dst with
   | some m=>okS m
   | none=>false
  | _=>true
 | _=>true
mutual
def tv:Sh→Bool
 | .agg _=>false
 | .arr _=>false
 | .box _ l=>xv l
 | _=>true
def xv:List Sh→Bool
 | []=>true
 | h::l=>tv h&&xv l
end
def al9:Sh→Bool
 | .agg l=>xv l
 | .arr _=>true
 | h=>tv h
def Fe:List Sh→Bool
 | []=>true
 | h::l=>al9 h&&Fe l
def ack:AV→Option (List Nat)
 | .own id=>some [id]
 | .ptr id _ _ _=>some [id]
 | .agg _=>none
 | .tup _=>none
 | .gd _ _ _=>none
 | _=>some []
def akY:List AV→Option (List Nat)
 | []=>some []
 | c::cs=>(ack c).bind fun a=>(akY cs).bind fun b=>some (a++b)
def acj:AV→Option (List Nat)
 | .agg cs=>akY cs
 | v=>ack v
def amF:List AV→Option (List Nat)
 | []=>some []
 | c::cs=>(acj c).bind fun a=>(amF cs).bind fun b=>some (a++b)
def akZ:AV→Option (List Nat)
 | .tup vs=>amF vs
 | v=>acj v
def ai8:AV→Option (List Nat)
 | .gd _ _ v=>akZ v
 | v=>akZ v
def bit(i:Nat):Nat:=Nat.shiftLeft 1 i
def msk:List Nat→Nat
 | []=>0
 | i::l=>avt (bit i) (msk l)
def nm(b:Nat):Nat:=Nat.shiftLeft 65535 b
def dsj(a b:Nat):Bool:=auW (ayG a b) 0
def sbs(a b:Nat):Bool:=auW (ayG a b) a
def tst(a i:Nat):Bool:= !(dsj a (bit i))
def ajS(H:Hp)(id:Nat):Option (List Nat):=match H id with
 | some (.box _ cs)=>akY cs
 | _=>some []
def aaR(H:Hp):List Nat→Option (List Nat)
 | []=>some []
 | i::l=>(ajS H i).bind fun a=>(aaR H l).bind fun b=>some (a++b)
def clo(H:Hp):Nat→List Nat→Option Nat
 | 0,[]=>some 0
 | 0,_::_=>none
 | n+1,l=>match l with
  | []=>some 0
  | i::l=>(aaR H (i::l)).bind fun m=>(clo H n m).bind fun r=>some (avt (msk (i::l)) r)
def aaD(ops:Array Oper):Nat→Oper→List Nat
 | 0,_=>[]
 | n+1,o=>match o.guard with
  | none=>[]
  | some (j,_)=>match ops[j]? with
   | some oj=>oj.dst.toList++aaD ops n oj
   | none=>[]
abbrev du(ops:Array Oper)(o:Oper):List Nat:=o.looksAt ops++aaD ops 4 o
def mov:Op→Bool
 | .move _=>true
 | .assign _=>true
 | .nilCheck _=>true
 | .binOp _ _ _ _ _=>true
 | .unOp _ _ _=>true
 | .fieldAddr _ _ _=>true
 | .field _ _ _=>true
 | .extract _ _=>true
 | .index _ _ _=>true
 | .build _ _=>true
 | _=>false
def pur(o:Oper):Bool:=match o.op with
 | .store _ _ _=>false
 | .call _=>false
 | .slice _ _ _ _ _=>false
 | .buildSlice _ _ _=>false
 | _=>true
structure Rec where
 i:Nat
 b:Nat
 F:Nat
 N:Nat
 W:Nat
 K:Nat
 anc:Nat
 V:List Nat
 o:Oper
def yz(i:Nat):List Rec→Option Rec
 | []=>none
 | r::l=>match auW r.i i with
  | true=>some r
  | false=>yz i l
def ZB(acc:List Rec):List Edge→Option Nat
 | []=>some 0
 | e::l=>match awg .any e with
  | true=>(yz e.on acc).bind fun r=>(ZB acc l).bind fun m=>some (avt (avt (bit e.on) r.anc) m)
  | false=>ZB acc l
def ai3(t:Nat):Option Nat→Bool
 | some d=>auW d t
 | none=>false
def alM(t:Nat)(l:List Nat):Bool:=l.any fun x=>auW x t
def adH(d:Option Nat)(l:List Nat):Bool:=match d with
 | some t=> !(alM t l)
 | none=>true
def ajC(d e:Option Nat):Bool:=match d,e with
 | some a,some b=> !(auW a b)
 | _,_=>true
def Zp(t:Nat):List Rec→Option Rec
 | []=>none
 | r::l=>match ai3 t r.o.dst with
  | true=>some r
  | false=>Zp t l
def aeZ(s0:S)(acc:List Rec):List Nat→Option (List Nat)
 | []=>some []
 | t::l=>(match Zp t acc with
  | some r=>some r.V
  | none=>ai8 (s0.T t)).bind fun a=>(aeZ s0 acc l).bind fun b=>some (a++b)
def mvO(o:Oper):Bool:=mov o.op&&pur o&&o.guard.isNone
def Lj(anc:Nat):List Rec→Nat→Nat
 | [],F=>F
 | r::l,F=>Lj anc l (match tst anc r.i&& !(dsj r.W F)&& !(mvO r.o) with
  | true=>avt r.F F
  | false=>F)
def alT(C:Cx)(ops:Array Oper)(s0:S)(o:Oper)(i b:Nat)(acc:List Rec)(s:S):Option Rec:=
 (ZB acc o.after.toList).bind fun anc=>(aeZ s0 acc (du ops o)).bind fun l=>(clo s0.H 4 l).bind fun c=>
 let F:=match mvO o with
  | true=>avt (msk l) (nm b)
  | false=>Lj anc acc (avt c (nm b))
 let W:=match tJ C s o with
  | none=>F
  | some l=>avt (msk l) (nm b)
 let K:=match tJ C s o with
  | none=>avt (msk (RH C s o)) (nm b)
  | some l=>avt (msk l) (nm b)
 let N:=match mvO o with
  | true=>nm b
  | false=>match pur o,o.guard with
   | true,none=>avt (msk l) (nm b)
   | _,_=>F
 match sbs W F with
 | true=>some { i:=i,b:=b,F:=F,N:=N,W:=W,K:=K,anc:=anc,V:=[],o:=o }
 | false=>none
def ans:Op→Bool
 | .load _ _=>true
 | _=>false
def am4(C:Cx)(ops:Array Oper)(s:S):Nat→Nat→AV
 | 0,t=>s.T t
 | n+1,t=>match ops.toList.find? (fun o=>ai3 t o.dst) with
  | none=>s.T t
  | some o=>match mov o.op||ans o.op with
   | true=>(match bY C.P C.kd (fun x=>match x with
     | .tmp t=>am4 C ops s n t
     | x=>s.ev x) s.H s.nid o.op with
    | some (_,v,_)=>v
    | none=> .un)
   | false=> .un
def ann(o:Oper):Option Nat:=match o.op with
 | .slice _ (.tmp x) _ _ none=>some x
 | _=>none
def amM:List Nat→List Nat
 | []=>[]
 | i::l=>match l.any (auW i) with
  | true=>i::amM l
  | false=>amM l
def agk(C:Cx)(ops:Array Oper)(s:S):List Nat:=match ops.toList.filterMap ann with
 | []=>[]
 | [_]=>[]
 | xs=>amM (xs.filterMap fun x=>vH (am4 C ops s 4 x))
def chk(ops:Array Oper)(x r:Rec):Bool:=
 ajC x.o.dst r.o.dst&&match tst r.anc x.i with
  | true=>(dsj x.W r.N||sbs x.F r.F)&&(adH x.o.dst (du ops r.o)||(sbs (msk x.V) r.F&&(mov r.o.op||sbs (msk x.V) r.N)))&&dsj x.F (nm r.b)
  | false=>(dsj x.K r.F&&dsj r.K x.F)&&(dsj x.W r.N&&dsj r.W x.N)&&(dsj x.W r.W&&(dsj x.F (nm r.b)&&dsj r.F (nm x.b)))&&adH x.o.dst (du ops r.o)&&adH r.o.dst (du ops x.o)
def vOf(s:S):Option Nat→Option (List Nat)
 | none=>some []
 | some t=>ai8 (s.T t)
def evD{Ω:Type}(C:Cx)(ops:Array Oper)(s0:S):List Oper→Nat→Nat→List Rec→S→(S→Option Ω)→Option Ω
 | [],_,b,_,s,k=>k { s with nid:=b }
 | o::l,i,b,acc,s,k=>match alT C ops s0 o i b acc s with
  | none=>none
  | some r=>match acc.all (fun x=>chk ops x r)&&okO C o&&adH o.dst (du ops o) with
   | true=>evG C (aah Ω) ops o b s fun s'=>(vOf s' o.dst).bind fun V=>evD C ops s0 l (i+1) (b+16) ({ r with V:=V } ::acc) s' k
   | false=>none
abbrev Sch:=List (Nat×Sh)
abbrev Lv(c:Sch):Type:=LTs (c.map (·.2))
def ZZ(H:Hp)(T:Nat→AV):(c:Sch)→Option (Lv c)
 | []=>some ()
 | (t,h)::c=>(eY T H h (T t)).bind fun x=>(ZZ H T c).bind fun xs=>some (x,xs)
def Du(H:Hp)(T:Nat→AV):Sch→List Nat
 | []=>[]
 | (t,h)::c=>kD H h (T t)++Du H T c
def aaE(H:Hp)(T:Nat→AV):Sch→List Nat
 | []=>[]
 | (t,h)::c=>lG H h (T t)++aaE H T c
def xm(T:Nat→AV)(H:Hp)(b:Nat):(c:Sch)→Lv c→(Nat→AV)×Hp×Nat
 | [],_=>(T,H,b)
 | (t,h)::c,x=>match cY T H b h x.1 with
  | (v,H,b)=>xm (upd T t v) H b c x.2
def mkS(n:Nat)(p:List Nat)(c:Sch)(x:Lv c):S:=match xm (fun _=> .un) (fun _=>none) 0 c x with
 | (T,H,b)=>{ n:=n,T:=T,H:=H,nid:=b,st:=[],pins:=p,gs:=fun _=>false }
def alR(n:Nat)(c:Sch):Bool:=QC (c.map (·.1))&&Fe (c.map (·.2))&&c.all fun x=>axv x.1 n
def rdS(c:Sch)(s:S):Option (Lv c):=match s.st,QC (Du s.H s.T c)&&off (aaE s.H s.T c) (Du s.H s.T c),alR s.n c with
 | [],true,true=>ZZ s.H s.T c
 | _,_,_=>none
structure Loop where
 sch:Sch
 apA:Sch
 xid:Nat
 apz:Sch
 run:Lv sch→Option (Lv apz ⊕ Lv apA)
inductive Adv where
 | nil
 | one (a:Adv)
 | two (a b:Adv)
 | join (c:Sch) (a b:Adv)
 | loop (l:Loop)
def Adv.a:Adv→Adv
 | .one a=>a
 | .two a _=>a
 | .join _ a _=>a
 | _=> .nil
def Adv.z:Adv→Adv
 | .two _ b=>b
 | .join _ _ b=>b
 | _=> .nil
structure Kt (Ω:Type) where
 nrm:S→Option Ω
 ret:S→Option Ω
 ext:Nat→S→Option Ω
def bH{Ω X:Type}(f:X→Option Ω)(m:Option (Ω ⊕ X)):Option Ω:=m.bind fun r=>match r with
 | .inl o=>some o
 | .inr x=>f x
def aK{A D Ω:Type}(m:Option (A ⊕ D))(f:A→Option Ω)(g:D→Option Ω):Option Ω:=m.bind fun r=>match r with
 | .inl a=>f a
 | .inr b=>g b
def yl{X Y:Type}(b:X→Option (X ⊕ Y)):Nat→X→Option Y
 | 0,_=>none
 | n+1,x=>(b x).bind fun r=>match r with
  | .inl y=>yl b n y
  | .inr z=>some z
open Classical in
def aV {X Y:Type} (b:X→Option (X ⊕ Y)) (x:X):Option Y:=
 if h: ∃ n y,yl b n x=some y then some (axs (av9 h)) else none
def evk(C:Cx)(inl:(Ω:Type)→Inl Ω):Code→(Ω:Type)→Adv→Kt Ω→S→Option Ω
 | .skip,_,_,k,s=>k.nrm s
 | .region _ ops false,Ω,_,k,s=>Vq C (inl Ω) ops ops.toList s k.nrm
 | .region _ ops true,_,_,k,s=>evD C ops ((agk C ops s).foldl S.freeze s) ops.toList 0 s.nid [] ((agk C ops s).foldl S.freeze s) k.nrm
 | .seq a b,Ω,.join c u v,k,s=>
  bH (fun x=>evk C inl b Ω v k (mkS s.n s.pins c x)) (evk C inl a (Ω ⊕ Lv c) u { nrm:=fun s=>(rdS c s).bind fun x=>some (.inr x),ret:=fun s=>(k.ret s).bind fun o=>some (.inl o),ext:=fun j s=>(k.ext j s).bind fun o=>some (.inl o) } s)
 | .seq a b,Ω,v,k,s=>evk C inl a Ω v.a { k with nrm:=evk C inl b Ω v.z k } s
 | .cond c x y,Ω,v,k,s=>match s.ev c with
  | .lit (.bool b)=>if b then evk C inl x Ω v.a k s else evk C inl y Ω v.z k s
  | _=>none
 | .block id c,Ω,v,k,s=>evk C inl c Ω v.a { k with ext:=fun j s=>match auW j id with
  | true=>k.nrm s
  | false=>k.ext j s } s
 | .loop _,_,.loop l,k,s=>(rdS l.sch s).bind fun x=>aK (l.run x) (fun y=>k.ret (mkS s.n s.pins l.apz y)) (fun y=>k.ext l.xid (mkS s.n s.pins l.apA y))
 | .exit id,_,_,k,s=>k.ext id s
 | .ret,_,_,k,s=>k.ret s
 | _,_,_,_,_=>none
def HA(P:Program)(s:S):List ResultVar→Option (List AV)
 | []=>some []
 | .tmp t::l=>(HA P s l).bind fun vs=>some (s.T t::vs)
 | .cell a t::l=>(F4 P s.H t (s.T a)).bind fun v=>(HA P s l).bind fun vs=>some (v::vs)
def eO(i:Nat):List Sh→List Nat
 | []=>[]
 | h::ps=>match acd h with
  | true=>i::eO (i+1) ps
  | false=>eO (i+1) ps
def agM(n:Nat)(ps:List Sh)(x:LTs ps):S:=match aC (fun _=> .un) (fun _=>none) 0 ps x with
 | (vs,H,b)=>{ n:=n,T:=fun t=>(vs[t]?).getD qU,H:=H,nid:=b,st:=[],pins:=eO 0 ps,gs:=fun _=>false }
def fin(P:Program)(fn:Func)(m:aoi)(s:S):Option (LTs m.rs×LTs (bg m.ps)):=
 (HA P s fn.results.toList).bind fun vs=>
 match QC (cn s.H (m.rs++bg m.ps) (vs++(eO 0 m.ps).map s.T))&&off (eX s.H (m.rs++bg m.ps) (vs++(eO 0 m.ps).map s.T)) (cn s.H (m.rs++bg m.ps) (vs++(eO 0 m.ps).map s.T)) with
 | true=>(rV s.T s.H m.rs vs).bind fun r=>(rV s.T s.H (bg m.ps) ((eO 0 m.ps).map s.T)).bind fun q=>some (r,q)
 | false=>none
def evF(C:Cx)(inl:(Ω:Type)→Inl Ω)(fn:Func)(body:Code)(v:Adv)(m:aoi)(x:LTs m.ps):Option (LTs m.rs×LTs (bg m.ps)):=
 evk C inl body _ v { nrm:=fin C.P fn m,ret:=fin C.P fn m,ext:=fun _ _=>none } (agM fn.ntmps m.ps x)
def alh(C:Cx)(inl:(Ω:Type)→Inl Ω)(fn:Func)(v:Adv)(m:aoi)(x:LTs m.ps):Option (LTs m.rs×LTs (bg m.ps)):=
 match fn.body with
 | some b=>evF C inl fn b v m x
 | none=>none
def ad3:List Nat→Code→Code
 | [],c=>c
 | 0::l,.seq a _=>ad3 l a
 | 1::l,.seq _ b=>ad3 l b
 | 0::l,.cond _ a _=>ad3 l a
 | 1::l,.cond _ _ b=>ad3 l b
 | 0::l,.block _ a=>ad3 l a
 | 0::l,.loop a=>ad3 l a
 | _::_,c=>c
def Bk(fn:Func):Code:=fn.body.getD .skip
def evL(C:Cx)(inl:(Ω:Type)→Inl Ω)(n:Nat)(p:List Nat)(c:Code)(v:Adv)(l:Loop)(x:Lv l.sch):Option (Lv l.sch ⊕ (Lv l.apz ⊕ Lv l.apA)):=
 evk C inl c _ v { nrm:=fun s=>(rdS l.sch s).bind fun y=>some (.inl y),ret:=fun s=>(rdS l.apz s).bind fun y=>some (.inr (.inl y)),ext:=fun j s=>match auW j l.xid with
  | true=>(rdS l.apA s).bind fun y=>some (.inr (.inr y))
  | false=>none } (mkS n p l.sch x)
def af:(Ω:Type)→Inl Ω:=aah
def aej:AV→AV
 | .gd _ _ _=> .un
 | v=>v
def plB:AV→Bool
 | .tup _=>false
 | .gd _ _ _=>false
 | _=>true
def adU(C:Cx):Nat→(Ω:Type)→Inl Ω
 | 0=>af
 | n+1=>fun Ω f d as s k=>match C.P.funcs[f]? with
  | none=>none
  | some fn=>match fn.body,fn.name == "runtime.NumGoroutine" with
   | some body,false=>
    let back:S→Option Ω:=fun s'=>match s'.st,HA C.P s' fn.results.toList with
     | T::st,some vs=>match vs.all plB with
      | true=>k ({ s' with n:=s.n,T:=fun t=>aej (T t),st:=st,pins:=s.pins,gs:=fun _=>false }.put d (Lr vs))
      | false=>none
     | _,_=>none
    match auW as.length fn.params.size&&awt as.length fn.ntmps&&as.all plB with
    | true=>evk C (adU C n) body Ω .nil { nrm:=back,ret:=back,ext:=fun _ _=>none } { s with n:=fn.ntmps,T:=fun t=>(as[t]?).getD qU,st:=s.T::s.st,pins:=[],gs:=fun _=>false }
    | false=>none
   | _,_=>none
end Go.VS
end
