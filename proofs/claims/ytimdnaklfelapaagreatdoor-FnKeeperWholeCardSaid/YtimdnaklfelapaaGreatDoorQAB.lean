/- An evaluator of the program's own code with its soundness, the printed texts of the functions, and plain laws of them (part 2). -/
import Derived.Orders
import Derived.Test.YtimdnaklfelapaaGreatDoorQAA
set_option linter.unusedVariables false
set_option linter.unusedSimpArgs false
set_option linter.defProp false
open BitVec renaming ofInt→arR
open Classical renaming choose→as3,choose_spec→arV
open Go.Region renaming binds→ar1
open List renaming replicate→aqQ
open Nat renaming beq→aqK,ble→asa,blt→as7,land→aul,lor→arc,min→asl
open UInt8 renaming ofNat→asR
noncomputable section
namespace Go.VS
open Go
def upd{α:Type}(f:Nat→α)(i:Nat)(v:α):Nat→α:=fun j=>match aqK j i with
 | true=>v
 | false=>f j
structure S where
 n:Nat
 T:Nat→AV
 H:Hp
 nid:Nat
 st:List (Nat→AV)
 pins:List Nat
 gs:Nat→Bool
def ag4:Value→Bool
 | .agg _=>false
 | .tuple _=>false
 | _=>true
def ofV:Value→AV
 | .agg cs=>match cs.toList.all ag4 with
  | true=> .agg (cs.toList.map .lit)
  | false=> .un
 | v=> .lit v
def S.ev(s:S):Operand→AV
 | .tmp t=>s.T t
 | .const v=>ofV v
 | _=> .un
def S.put(s:S)(d:Option Nat)(v:AV):S:=match d with
 | none=>s
 | some t=>{ s with T:=upd s.T t v }
def S.has(s:S)(d:Option Nat):Bool:=match d with
 | none=>true
 | some t=>as7 t s.n&& !(s.pins.any fun p=>aqK p t)&& !(s.gs t)
def fe(H:Hp)(b:Nat):List Ob→Hp
 | []=>H
 | o::os=>fe (upd H b (some o)) (b+1) os
def oQ(f:AV→AV):AV→AV
 | .agg cs=> .agg (cs.map f)
 | v=>f v
def p6(f:AV→AV):AV→AV
 | .tup vs=> .tup (vs.map (oQ f))
 | v=>oQ f v
def vK(f:AV→AV):AV→AV
 | .gd g w v=> .gd g w (p6 f v)
 | v=>p6 f v
def gT(f:AV→AV):Option Ob→Option Ob
 | some (.box e cs)=>some (.box e (cs.map f))
 | o=>o
def S.map(s:S)(f:AV→AV):S:=
 { s with T:=fun t=>vK f (s.T t),H:=fun j=>gT f (s.H j),st:=s.st.map fun T t=>vK f (T t) }
def S.akD(s:S)(id:Nat)(o:Option Ob):S:={ s with H:=upd s.H id o }
def kl1(id:Nat):AV→AV
 | .own j=>match aqK j id with
  | true=> .un
  | false=> .own j
 | .ptr j z i o=>match aqK j id with
  | true=> .un
  | false=> .ptr j z i o
 | v=>v
def fz1(id:Nat)(k:K)(xs:List (Tof k)):AV→AV
 | .own j=>match aqK j id with
  | true=> .sl k xs
  | false=> .own j
 | .ptr j z i o=>match aqK j id with
  | true=> .un
  | false=> .ptr j z i o
 | v=>v
def S.kill(s:S)(id:Nat):S:=(s.map (kl1 id)).akD id none
def S.freeze(s:S)(id:Nat):S:=match s.H id with
 | some (.row _ _ k xs)=>(s.map (fz1 id k xs)).akD id none
 | _=>s.kill id
def UY(P:Program)(t:TypeId):Option Bool:=match P.underlying t with
 | some (.struct _)=>some true
 | some (.array _ _)=>some true
 | some _=>some false
 | none=>none
def nc(P:Program)(t:TypeId)(f:Nat):Option Field:=match P.underlying t with
 | some (.struct fs)=>fs[f]?
 | _=>none
def kt:AV→Option (List AV)
 | .un=>none
 | .gd _ _ _=>none
 | .lit (.tuple _)=>none
 | .lit (.agg _)=>none
 | .tup _=>none
 | .arr _ _=>none
 | .agg cs=>some cs
 | v=>some [v]
def u9(P:Program)(t:TypeId):Option (List AV):=(P.info? t).bind fun i=>i.zero.bind fun z=>match z.cells.toList.all ag4 with
 | true=>some (z.cells.toList.map .lit)
 | false=>none
def agx:AV→AV→Bool
 | .lit (.int k n),.lit (.int k' m)=>decide (k=k')&&decide (n=m)
 | .lit (.bool a),.lit (.bool b)=>a == b
 | .lit (.string a),.lit (.string b)=>aqK a.size 0&&aqK b.size 0
 | .lit (.slice none 0 0),.sl _ []=>true
 | _,_=>false
def Wd:List AV→List AV→Bool
 | [],[]=>true
 | a::l,b::m=>agx a b&&Wd l m
 | _,_=>false
def zok(P:Program)(t:TypeId)(k:K):Bool:=match u9 P t with
 | some zs=>Wd zs (enc k (dfl k))
 | none=>false
def eA(P:Program)(t:TypeId):Option TypeId:=match P.underlying t with
 | some (.slice e)=>some e
 | _=>none
def inb(i:Int)(n:Nat):Bool:=decide (0≤i)&&decide (i < (n:Int))
def bt(s:aqp)(i:Int):Int:=((s.data.toList.getD i.toNat 0).toNat:Int)
def rd{α:Type}(d:α)(xs:List α)(i:Int):α:=xs.getD i.toNat d
def aH(s:aqp):List Int:=s.data.toList.map fun b=>(b.toNat:Int)
def dR(xs:List Int):aqp:=⟨(xs.map fun n=>asR n.toNat).toArray⟩
def te(k:IntKind)(a b:Int):Int:=k.wrap ((arR k.bits a ^^^ arR k.bits b).toNat:Int)
def ajw(k:IntKind)(a b:Int):Int:=k.wrap ((arR k.bits a &&& arR k.bits b).toNat:Int)
def ior(k:IntKind)(a b:Int):Int:=k.wrap ((arR k.bits a ||| arR k.bits b).toNat:Int)
def w64(n:Int):Int:=IntKind.i64.wrap n
def w8(n:Int):Int:=IntKind.u8.wrap n
def al(n:Nat):Bool:=decide (n≤4294967296)
abbrev PR:=Option (Bool×AV×List Ob)
def okA(v:AV):PR:=some (true,v,[])
def okN:AV→PR
 | .gd _ _ _=>none
 | v=>okA v
def uv(P:Program)(t:TypeId)(cs:List AV)(o:Nat):Option AV:=match UY P t with
 | some true=>match asa (o+P.cellsOf t) cs.length&&asa 1 (P.cellsOf t) with
  | true=>some (.agg ((cs.drop o).take (P.cellsOf t)))
  | false=>none
 | some false=>cs[o]?
 | none=>none
def C9(P:Program)(H:Hp)(t:TypeId):AV→Option AV
 | .ipt k x o=>uv P t (enc k x) o
 | .ptr id z i o=>match H id with
  | some (.box _ cs)=>match i with
   | 0=>uv P t cs o
   | _=>none
  | some (.row _ _ k xs)=>match aqK z (ks k) with
   | true=>uv P t (enc k (xs.getD i (dfl k))) o
   | false=>none
  | some (.arr e k xs)=>match P.underlying t with
   | some (.array _ _)=>match aqK e t&&asa 1 (P.cellsOf t),i,o with
    | true,0,0=>some (.arr k xs)
    | _,_,_=>none
   | _=>match aqK z (ks k) with
    | true=>uv P t (enc k (xs.getD i (dfl k))) o
    | false=>none
  | none=>none
 | _=>none
def agp(op:BinOp)(k:IntKind)(a b:Int):PR:=match op with
 | .add=>okA (.lit (.int k (k.wrap (a+b))))
 | .sub=>okA (.lit (.int k (k.wrap (a - b))))
 | .mul=>okA (.lit (.int k (k.wrap (a * b))))
 | .quo=>some (!decide (b=0),.lit (.int k (k.wrap (a.tdiv b))),[])
 | .rem=>some (!decide (b=0),.lit (.int k (a.tmod b)),[])
 | .xor=>okA (.lit (.int k (te k a b)))
 | .and=>okA (.lit (.int k (ajw k a b)))
 | .or=>okA (.lit (.int k (ior k a b)))
 | .eql=>okA (.b (decide (a=b)))
 | .neq=>okA (.b (!decide (a=b)))
 | .lss=>okA (.b (decide (a < b)))
 | .leq=>okA (.b (decide (a≤b)))
 | .gtr=>okA (.b (decide (b < a)))
 | .geq=>okA (.b (decide (b≤a)))
 | _=>none
def ago(op:BinOp)(a b:aqp):PR:=match op with
 | .add=>some (decide (a.size+b.size≤4611686018427387904),.s (a++b),[])
 | .eql=>okA (.b (decide (a=b)))
 | .neq=>okA (.b (!decide (a=b)))
 | _=>none
def eqC:List AV→List AV→Option Bool
 | [],[]=>some true
 | .lit (.int k a)::l,.lit (.int k' b)::m=>match decide (k=k') with
  | true=>(eqC l m).bind fun r=>some (decide (a=b)&&r)
  | false=>none
 | .lit (.bool a)::l,.lit (.bool b)::m=>(eqC l m).bind fun r=>some (decide (a=b)&&r)
 | .lit (.string a)::l,.lit (.string b)::m=>(eqC l m).bind fun r=>some (decide (a=b)&&r)
 | _,_=>none
def abG(P:Program):Nat→List Field→List AV→Bool
 | _,[],_=>true
 | n,f::fs,c::cs=>(match P.underlying f.type,c with
  | some .bool,.lit (.bool _)=>true
  | some (.int _),.lit (.int _ _)=>true
  | some .string,.lit (.string _)=>true
  | _,_=>false)&&aqK f.offset n&& !(f.name == "_")&&abG P (n+1) fs cs
 | _,_,_=>false
def afR(P:Program)(t:TypeId)(cs:List AV):Bool:=match P.underlying t with
 | some (.struct fs)=>abG P 0 fs.toList cs&&aqK fs.size cs.length&& !P.stoodInHeld t&& !P.eqGuardType P.depth t
 | _=>false
def aaV(P:Program)(op:BinOp)(t:TypeId):AV→AV→PR
 | .lit (.int k a),.lit (.int k' b)=>match decide (k=k') with
  | true=>agp op k a b
  | false=>none
 | .lit (.string a),.lit (.string b)=>ago op a b
 | .lit (.bool a),.lit (.bool b)=>match P.underlying t,op with
  | some .bool,.eql=>okA (.b (decide (a=b)))
  | some .bool,.neq=>okA (.b (!decide (a=b)))
  | _,_=>none
 | .agg a,.agg b=>match afR P t a,aqK a.length b.length,eqC a b,op with
  | true,true,some r,.eql=>okA (.b r)
  | true,true,some r,.neq=>okA (.b (!r))
  | _,_,_,_=>none
 | _,_=>none
def unA:UnOp→AV→PR
 | .not,.lit (.bool b)=>okA (.b (!b))
 | .neg,.lit (.int k n)=>okA (.lit (.int k (k.wrap (0 - n))))
 | _,_=>none
def re(g:Nat)(w:Bool):AV→AV
 | .gd g' w' v=>match aqK g g',w == w' with
  | true,true=>v
  | _,_=> .gd g' w' v
 | v=>v
def KX(w:Bool)(v:AV):Operand→AV
 | .tmp g=>re g w v
 | _=>v
def GF:AV→Option Bool
 | .lit (.bool b)=>some b
 | _=>none
def Qq(ρ:Operand→AV)(c a b:Operand):PR:=match ρ c,a,b with
 | .lit (.bool q),.const (.bool true),b=>match GF (KX false (ρ b) c) with
  | some y=>okA (.b (q||y))
  | none=>match q with
   | true=>okA (.b true)
   | false=>okN (ρ b)
 | .lit (.bool q),a,.const (.bool false)=>match GF (KX true (ρ a) c) with
  | some x=>okA (.b (q&&x))
  | none=>match q with
   | true=>okN (ρ a)
   | false=>okA (.b false)
 | .lit (.bool q),a,b=>match q with
  | true=>okN (ρ a)
  | false=>okN (ρ b)
 | _,_,_=>none
def ov(ρ:Operand→AV):Nat→List (Nat×Operand)→Option (List AV)
 | _,[]=>some []
 | n,(i,x)::l=>match aqK i n with
  | true=>(ov ρ (n+1) l).bind fun vs=>some (ρ x::vs)
  | false=>none
def uT(k:K):List AV→Option (List (Tof k))
 | []=>some []
 | v::l=>(kt v).bind fun cs=>(dec (fun _=>none) k cs).bind fun x=>(uT k l).bind fun xs=>some (x::xs)
def kV(cs:List AV)(o:Nat)(ys:List AV):List AV:=cs.take o++ys++cs.drop (o+ys.length)
def oN(P:Program)(ρ:Operand→AV)(t:TypeId):List (Nat×Operand)→List AV→Option (List AV)
 | [],cs=>some cs
 | (i,x)::l,cs=>(nc P t i).bind fun f=>(kt (ρ x)).bind fun ys=>
  match aqK ys.length (P.cellsOf f.type)&&asa (f.offset+ys.length) cs.length with
  | true=>oN P ρ t l (kV cs f.offset ys)
  | false=>none
def OZ(lo hi:Option AV)(n:Nat):Option (Bool×Int×Int):=match lo,hi with
 | none,none=>some (true,0,n)
 | some (.lit (.int _ l)),none=>some (decide (0≤l)&&decide (l≤(n:Int)),l,n)
 | none,some (.lit (.int _ h))=>some (decide (0≤h)&&decide (h≤(n:Int)),0,h)
 | some (.lit (.int _ l)),some (.lit (.int _ h))=>some ((decide (0≤h)&&decide (h≤(n:Int)))&&(decide (0≤l)&&decide (l≤h)),l,h)
 | _,_=>none
def MC{α:Type}(lo hi:Option AV)(l h:Int)(xs:List α):List α:=match lo,hi with
 | none,none=>xs
 | some _,none=>xs.drop l.toNat
 | none,some _=>xs.take h.toNat
 | some _,some _=>(xs.take h.toNat).drop l.toNat
def fu(P:Program)(H:Hp)(t:TypeId)(v:AV):Bool:=match P.underlying t,v with
 | some .string,.lit (.string _)=>true
 | some (.slice e),.sl k _=>aqK (P.cellsOf e) (ks k)
 | some (.slice e),.lit (.slice _ _ _)=>asa 1 (P.cellsOf e)
 | some (.slice e),.own id=>match H id with
  | some (.row _ _ k _)=>aqK (P.cellsOf e) (ks k)
  | _=>false
 | _,_=>false
def K7(lo hi:Option AV):AV→PR
 | .lit (.string s)=>(OZ lo hi s.size).bind fun(c,l,h)=>some (c,.s (s.extract l.toNat h.toNat),[])
 | .sl k xs=>(OZ lo hi xs.length).bind fun(c,l,h)=>some (c,.sl k (MC lo hi l h xs),[])
 | .lit (.slice none 0 0)=>(OZ lo hi 0).bind fun(c,_,_)=>some (c,.lit (.slice none 0 0),[])
 | _=>none
def z7(P:Program)(src dst:TypeId)(b:AV):PR:=match P.underlying src,P.underlying dst,b with
 | some _,some (.int k),.lit (.int _ n)=>okA (.lit (.int k (k.wrap n)))
 | some .string,some .string,.lit (.string s)=>okA (.s s)
 | some .string,some (.slice e),.lit (.string s)=>match P.underlying e with
  | some (.int .u8)=>some (al s.size,.own 0,[.row e true .u8 (aH s)])
  | _=>none
 | _,_,_=>none
def adl(P:Program)(t:TypeId)(i:Int):AV→PR
 | .lit (.string s)=>match P.underlying t with
  | some .string=>some (inb i s.size,.y (bt s i),[])
  | _=>none
 | .arr k xs=>match P.underlying t with
  | some (.array n e)=>match aqK (ks k) 1&&aqK (P.cellsOf e) 1,UY P e with
   | true,some false=>(uv P e (enc k (rd (dfl k) xs i)) 0).bind fun v=>some (inb i xs.length&&inb i n,v,[])
   | _,_=>none
  | _=>none
 | _=>none
def qS(P:Program)(H:Hp)(t:TypeId)(i:Int):AV→PR
 | .sl k xs=>match P.underlying t with
  | some (.slice e)=>match aqK (P.cellsOf e) (ks k) with
   | true=>some (inb i xs.length,.ipt k (rd (dfl k) xs i) 0,[])
   | false=>none
  | _=>none
 | .own id=>match P.underlying t,H id with
  | some (.slice e),some (.row _ _ k xs)=>match aqK (P.cellsOf e) (ks k) with
   | true=>some (inb i xs.length,.ptr id (ks k) i.toNat 0,[])
   | false=>none
  | _,_=>none
 | .ptr id z 0 0=>match P.underlying t,H id with
  | some (.array n e),some (.arr e' k xs)=>match aqK (P.cellsOf e) (ks k)&&aqK (P.cellsOf t) (n * ks k)&&aqK e' t with
   | true=>some (inb i xs.length,.ptr id (ks k) i.toNat 0,[])
   | false=>none
  | _,_=>none
 | _=>none
def BZ(P:Program)(ρ:Operand→AV)(H:Hp)(c:Call):PR:=match c.callee,c.args.toList,c.argTypes.toList with
 | .builtin .len,[x],[t]=>match P.underlying t,ρ x with
  | some .string,.lit (.string s)=>okA (.i s.size)
  | some (.slice _),.sl _ xs=>okA (.i xs.length)
  | some (.slice _),.lit (.slice none 0 0)=>okA (.i 0)
  | some (.slice _),.own id=>match H id with
   | some (.row _ _ _ xs)=>okA (.i xs.length)
   | _=>none
  | some (.array n _),_=>okA (.i n)
  | _,_=>none
 | .builtin .min,[x,y],_=>match ρ x,ρ y with
  | .lit (.int k a),.lit (.int k' c)=>match decide (k=k') with
   | true=>okA (.lit (.int k (if c < a then c else a)))
   | false=>none
  | _,_=>none
 | .builtin .max,[x,y],_=>match ρ x,ρ y with
  | .lit (.int k a),.lit (.int k' c)=>match decide (k=k') with
   | true=>okA (.lit (.int k (if a < c then c else a)))
   | false=>none
  | _,_=>none
 | _,_,_=>none
def bD(P:Program)(kd:TypeId→Option K)(ρ:Operand→AV)(H:Hp)(b:Nat):Op→PR
 | .move x=>okN (ρ x)
 | .assign x=>okN (ρ x)
 | .pick c x y=>Qq ρ c x y
 | .alloc t=>match P.underlying t with
  | some (.array n e)=>(kd e).bind fun k=>(u9 P t).bind fun zs=>match Wd zs ((aqQ n (dfl k)).flatMap (enc k))&&aqK (P.cellsOf t) (n * ks k)&&asa 1 n with
   | true=>some (true,.ptr b (ks k) 0 0,[.arr t k (aqQ n (dfl k))])
   | false=>none
  | _=>(u9 P t).bind fun zs=>some (true,.ptr b zs.length 0 0,[.box t zs])
 | .box t x=>(kt (ρ x)).bind fun cs=>some (true,.ptr b cs.length 0 0,[.box t cs])
 | .build t ps=>(u9 P t).bind fun zs=>match P.underlying t with
  | some (.struct fs)=>match fs.toList.all fun f=>(P.info? f.type).isSome with
   | true=>(oN P ρ t ps.toList zs).bind fun cs=>okA (.agg cs)
   | false=>none
  | _=>none
 | .buildSlice t len ps=>(eA P t).bind fun e=>(kd e).bind fun k=>(ov ρ 0 ps.toList).bind fun vs=>(uT k vs).bind fun xs=>
  match aqK vs.length len&&aqK (P.cellsOf e) (ks k)&&asa len 65536&&zok P e k with
  | true=>some (true,.own b,[.row e false k xs])
  | false=>none
 | .load t p=>(C9 P H t (ρ p)).bind okA
 | .nilCheck p=>match ρ p with
  | .ptr id z i o=>okA (.ptr id z i o)
  | .ipt k x o=>okA (.ipt k x o)
  | _=>none
 | .binOp op t x y _=>aaV P op t (ρ x) (ρ y)
 | .unOp op _ x=>unA op (ρ x)
 | .convert src dst x=>match P.underlying src,P.underlying dst with
  | some (.slice e),some .string=>match P.underlying e with
   | some (.int .u8)=>(gQ H .u8 (ρ x)).bind fun xs=>okA (.s (dR xs))
   | _=>none
  | _,_=>match z7 P src dst (ρ x) with
   | some (c,.own _,os)=>some (c,.own b,os)
   | r=>r
 | .makeSlice t l c=>match ρ l,ρ c,(match l,c with
   | .tmp i,.tmp j=>aqK i j
   | _,_=>false) with
  | .lit (.int .i64 n),_,true=>(eA P t).bind fun e=>(kd e).bind fun k=>
   match zok P e k&&aqK (P.cellsOf e) (ks k)&&asa (P.bytesOf e) 256 with
   | true=>some (decide (0≤n)&&decide (n≤4294967296),.own b,[.row e false k (aqQ n.toNat (dfl k))])
   | false=>none
  | .lit (.int .i64 n),.lit (.int .i64 m),false=>match decide (n=m) with
   | true=>(eA P t).bind fun e=>(kd e).bind fun k=>
    match zok P e k&&aqK (P.cellsOf e) (ks k)&&asa (P.bytesOf e) 256 with
    | true=>some (decide (0≤n)&&decide (n≤4294967296),.own b,[.row e false k (aqQ n.toNat (dfl k))])
    | false=>none
   | false=>none
  | _,_,_=>none
 | .slice t x lo hi none=>match fu P H t (ρ x) with
  | true=>K7 (lo.map ρ) (hi.map ρ) (ρ x)
  | false=>none
 | .fieldAddr t x f=>(nc P t f).bind fun fd=>match asa 1 (P.cellsOf fd.type) with
  | true=>match ρ x with
   | .ptr id z i o=>okA (.ptr id z i (o+fd.offset))
   | .ipt k v o=>okA (.ipt k v (o+fd.offset))
   | _=>none
  | false=>none
 | .field t x f=>(nc P t f).bind fun fd=>match ρ x with
  | .agg cs=>(uv P fd.type cs fd.offset).bind okA
  | _=>none
 | .indexAddr t x ix=>match ρ ix with
  | .lit (.int _ i)=>qS P H t i (ρ x)
  | _=>none
 | .index t x ix=>match ρ ix with
  | .lit (.int _ i)=>adl P t i (ρ x)
  | _=>none
 | .extract x i=>match ρ x with
  | .tup vs=>(vs[i]?).bind okA
  | _=>none
 | .call c=>BZ P ρ H c
 | _=>none
abbrev oZ:AV:= .lit undef
def sY:AV→Option Nat
 | .own id=>some id
 | _=>none
def nop:AV→Bool
 | .lit (.pointer (some _))=>false
 | .lit _=>true
 | .sl _ _=>true
 | .own _=>true
 | _=>false
def afS(o n:Nat)(cs:List AV):Bool:=asa (o+n) cs.length&&(asa 1 o||nop (cs.headD (.lit (.bool false))))
def o3(P:Program)(t:TypeId)(s:S):AV→AV→Option S
 | .ptr id z i o,x=>match s.H id with
  | some (.box e cs)=>match i with
   | 0=>(kt x).bind fun ys=>match aqK ys.length (P.cellsOf t)&&asa 1 (P.cellsOf t)&&afS o ys.length cs with
    | true=>some (s.akD id (some (.box e (kV cs o ys))))
    | false=>none
   | _=>none
  | some (.row e fz k xs)=>(kt x).bind fun ys=>match aqK ys.length (P.cellsOf t)&&asa 1 (P.cellsOf t)&&asa (o+ys.length) (ks k)&&aqK z (ks k)&& !((ys.filterMap sY).any fun j=>aqK j id) with
   | true=>(dec s.H k (kV (enc k (xs.getD i (dfl k))) o ys)).bind fun y=>
    some (((ys.filterMap sY).foldl S.freeze s).akD id (some (.row e fz k (xs.set i y))))
   | false=>none
  | some (.arr e k xs)=>(kt x).bind fun ys=>match aqK ys.length (P.cellsOf t)&&asa 1 (P.cellsOf t)&&asa (o+ys.length) (ks k)&&aqK z (ks k) with
   | true=>(dec (fun _=>none) k (kV (enc k (xs.getD i (dfl k))) o ys)).bind fun y=>some (s.akD id (some (.arr e k (xs.set i y))))
   | false=>none
  | none=>none
 | _,_=>none
def P1(H:Hp)(k:K):AV→Option (List (Tof k))
 | .lit (.string s)=>match k with
  | .u8=>some (aH s)
  | _=>none
 | v=>gQ H k v
def q8(P:Program)(kd:TypeId→Option K)(t t2:TypeId)(s:S)(b:Nat)(x y:AV):Option (Bool×AV×S):=
 (eA P t).bind fun e=>(kd e).bind fun k=>(P1 s.H k y).bind fun ys=>
 match aqK (P.cellsOf e) (ks k)&&asa (P.bytesOf e) 256&&zok P e k&&(match P.underlying t2 with
   | some .string=>true
   | some (.slice _)=>true
   | _=>false),x with
 | true,.lit (.slice none 0 0)=>some (al ys.length,.own b,s.akD b (some (.row e false k ys)))
 | true,.own id=>match s.H id,(match y with
   | .own j=>aqK j id
   | _=>false) with
  | some (.row e' false k' xs),false=>match aqK e e' with
   | true=>(z8 k' k xs).bind fun xs=>some (al (xs.length+ys.length),.own id,(s.map (kl1 id)).akD id (some (.row e false k (xs++ys))))
   | false=>none
  | _,_=>none
 | _,_=>none
def Gm(P:Program)(t:TypeId)(s:S)(x y:AV):Option (AV×S):=match x with
 | .own id=>match s.H id,(match y with
   | .own j=>aqK j id
   | _=>false) with
  | some (.row e fz k xs),false=>(eA P t).bind fun e'=>match aqK (P.cellsOf e') (ks k) with
   | true=>(P1 s.H k y).bind fun ys=>some (.i (asl ys.length xs.length:Nat),s.akD id (some (.row e fz k (ys.take xs.length++xs.drop ys.length))))
   | false=>none
  | _,_=>none
 | _=>none
def lh(s:S)(id:Nat)(z:Bool)(lo hi:Option AV):Option (Bool×AV×S):=match s.H id with
 | some (.row e fz k xs)=>(OZ lo hi xs.length).bind fun(c,l,h)=>match z,hi with
  | true,none=>some (c,.own id,(s.map (kl1 id)).akD id (some (.row e fz k (MC lo hi l h xs))))
  | true,some _=>none
  | false,_=>some (c,.sl k (MC lo hi l h xs),s.freeze id)
 | _=>none
inductive Sh where
 | int (k:IntKind)
 | bool
 | str
 | sl (k:K)
 | row (e:TypeId) (k:K)
 | fz (k:K)
 | agg (l:List Sh)
 | akl (e:TypeId) (k:K)
 | abx (e:TypeId) (k:K)
 | arr (k:K)
 | same (t:Nat)
 | box (e:TypeId) (l:List Sh)
mutual
abbrev LT:Sh→Type
 | .int _=>Int
 | .bool=>Bool
 | .str=>aqp
 | .sl k=>List (Tof k)
 | .row _ k=>List (Tof k)
 | .fz k=>List (Tof k)
 | .akl _ k=>List (Tof k)
 | .abx _ k=>List (Tof k)
 | .arr k=>List (Tof k)
 | .same _=>aqq
 | .agg l=>LTs l
 | .box _ l=>LTs l
abbrev LTs:List Sh→Type
 | []=>aqq
 | h::l=>LT h×LTs l
end
mutual
def dW (E:Nat→AV) (H:Hp):(h:Sh)→AV→Option (LT h)
 | .int k,.lit (.int k' n)=>match decide (k=k') with
  | true=>some n
  | false=>none
 | .bool,.lit (.bool b)=>some b
 | .str,.lit (.string s)=>some s
 | .sl k,.sl k' xs=>z8 k' k xs
 | .sl _,.lit (.slice none 0 0)=>some []
 | .row _ _,.lit (.slice none 0 0)=>some []
 | .row e k,.own id=>match H id with
  | some (.row e' false k' xs)=>match aqK e e' with
   | true=>z8 k' k xs
   | false=>none
  | _=>none
 | .fz k,v=>gQ H k v
 | .akl e k,.own id=>match H id with
  | some (.row e' true k' xs)=>match aqK e e' with
   | true=>z8 k' k xs
   | false=>none
  | _=>none
 | .abx e k,.ptr id z 0 0=>match H id with
  | some (.arr e' k' xs)=>match aqK e e'&&aqK z (ks k) with
   | true=>z8 k' k xs
   | false=>none
  | _=>none
 | .arr k,.arr k' xs=>z8 k' k xs
 | .same t,.ptr id _ 0 0=>match E t with
  | .ptr id' _ 0 0=>match aqK id id' with
   | true=>some ()
   | false=>none
  | _=>none
 | .agg l,.agg cs=>pX E H l cs
 | .box e l,.ptr id _ 0 0=>match H id with
  | some (.box e' cs)=>match aqK e e' with
   | true=>pX E H l cs
   | false=>none
  | _=>none
 | _,_=>none
def pX (E:Nat→AV) (H:Hp):(l:List Sh)→List AV→Option (LTs l)
 | [],[]=>some ()
 | h::l,c::cs=>(dW E H h c).bind fun x=>(pX E H l cs).bind fun xs=>some (x,xs)
 | _,_=>none
end
mutual
def je (H:Hp):Sh→AV→List Nat
 | .row _ _,.own id=>[id]
 | .akl _ _,.own id=>[id]
 | .abx _ _,.ptr id _ 0 0=>[id]
 | .agg l,.agg cs=>bQ H l cs
 | .box _ l,.ptr id _ 0 0=>match H id with
  | some (.box _ cs)=>bQ H l cs++[id]
  | _=>[]
 | _,_=>[]
def bQ (H:Hp):List Sh→List AV→List Nat
 | h::l,c::cs=>je H h c++bQ H l cs
 | _,_=>[]
end
mutual
def gG (H:Hp):Sh→AV→List Nat
 | .row _ _,.own id=>[id]
 | .akl _ _,.own id=>[id]
 | .abx _ _,.ptr id _ 0 0=>[id]
 | .agg l,.agg cs=>dp H l cs
 | .box _ l,.ptr id _ 0 0=>match H id with
  | some (.box _ cs)=>dp H l cs
  | _=>[]
 | _,_=>[]
def dp (H:Hp):List Sh→List AV→List Nat
 | h::l,c::cs=>gG H h c++dp H l cs
 | _,_=>[]
end
mutual
def jQ (H:Hp):Sh→AV→List Nat
 | .fz _,.own id=>[id]
 | .agg l,.agg cs=>dV H l cs
 | .box _ l,.ptr id _ 0 0=>match H id with
  | some (.box _ cs)=>dV H l cs
  | _=>[]
 | _,_=>[]
def dV (H:Hp):List Sh→List AV→List Nat
 | h::l,c::cs=>jQ H h c++dV H l cs
 | _,_=>[]
end
def Nj:List Nat→Bool
 | []=>true
 | a::l=> !(l.any fun b=>aqK a b)&&Nj l
def off(l m:List Nat):Bool:=l.all fun a=> !(m.any fun b=>aqK a b)
mutual
def ch (E:Nat→AV) (H:Hp) (b:Nat):(h:Sh)→LT h→AV×Hp×Nat
 | .int k,n=>(.lit (.int k n),H,b)
 | .bool,x=>(.b x,H,b)
 | .str,s=>(.s s,H,b)
 | .sl k,xs=>(.sl k xs,H,b)
 | .row e k,xs=>(.own b,upd H b (some (.row e false k xs)),b+1)
 | .fz k,xs=>(.sl k xs,H,b)
 | .akl e k,xs=>(.own b,upd H b (some (.row e true k xs)),b+1)
 | .abx e k,xs=>(.ptr b (ks k) 0 0,upd H b (some (.arr e k xs)),b+1)
 | .arr k,xs=>(.arr k xs,H,b)
 | .same t,_=>(E t,H,b)
 | .agg l,x=>match aw E H b l x with
  | (cs,H,b)=>(.agg cs,H,b)
 | .box e l,x=>match aw E H b l x with
  | (cs,H,b)=>(.ptr b cs.length 0 0,upd H b (some (.box e cs)),b+1)
def aw (E:Nat→AV) (H:Hp) (b:Nat):(l:List Sh)→LTs l→List AV×Hp×Nat
 | [],_=>([],H,b)
 | h::l,x=>match ch E H b h x.1 with
  | (c,H,b)=>match aw E H b l x.2 with
   | (cs,H,b)=>(c::cs,H,b)
end
mutual
def lC (E:Nat→AV) (H:Hp) (b:Nat):(h:Sh)→AV→LT h→AV×Hp×Nat
 | .box e l,.ptr id z 0 0,x=>match H id with
  | some (.box _ cs)=>match bm E H b l cs x with
   | (ds,H,b)=>(.ptr id z 0 0,upd H id (some (.box e ds)),b)
  | _=>(.un,H,b)
 | .same _,v,_=>(v,H,b)
 | h,_,x=>ch E H b h x
def bm (E:Nat→AV) (H:Hp) (b:Nat):(l:List Sh)→List AV→LTs l→List AV×Hp×Nat
 | [],_,_=>([],H,b)
 | h::l,cs,x=>match lC E H b h (cs.headD .un) x.1 with
  | (d,H,b)=>match bm E H b l cs.tail x.2 with
   | (ds,H,b)=>(d::ds,H,b)
end
def Yr:Sh→Bool
 | .box _ _=>true
 | _=>false
abbrev aT:List Sh→List Sh
 | []=>[]
 | .box e l::ps=> .box e l::aT ps
 | .int _::ps=>aT ps
 | .bool::ps=>aT ps
 | .str::ps=>aT ps
 | .sl _::ps=>aT ps
 | .row _ _::ps=>aT ps
 | .fz _::ps=>aT ps
 | .akl _ _::ps=>aT ps
 | .abx _ _::ps=>aT ps
 | .arr _::ps=>aT ps
 | .same _::ps=>aT ps
 | .agg _::ps=>aT ps
def eR:List Sh→List AV→List AV
 | .box _ _::ps,v::vs=>v::eR ps vs
 | _::ps,_::vs=>eR ps vs
 | _,_=>[]
def VO:K→Bool
 | .half=>false
 | .keep=>false
 | .ajU=>false
 | _=>true
mutual
def WK:Sh→Bool
 | .sl _=>true
 | .fz _=>true
 | .row _ k=> !VO k
 | .akl _ k=> !VO k
 | .abx _ k=> !VO k
 | .arr k=> !VO k
 | .agg l=>c8 l
 | .box _ l=>c8 l
 | _=>false
def c8:List Sh→Bool
 | []=>false
 | h::l=>WK h||c8 l
end
structure akx where
 ps:List Sh
 rs:List Sh
 g:LTs ps→Option (LTs rs×LTs (aT ps))
def Ih:List AV→AV
 | [v]=>v
 | vs=> .tup vs
def Cm(q:Bool)(ids:List Nat)(s:S):S:=match q with
 | true=>ids.foldl S.freeze s
 | false=>s
def ww{Ω:Type}(m:akx)(s:S)(b:Nat)(d:Option Nat)(as:List AV)(k:S→Option Ω):Option Ω:=
 let E:Nat→AV:=fun i=>(as[i]?).getD .un
 match pX E s.H m.ps as,Nj (bQ s.H m.ps as)&&off (dV s.H m.ps as) (bQ s.H m.ps as) with
 | some x,true=>(m.g x).bind fun r=>
  let s1:=(dp s.H m.ps as).foldl S.kill s
  let s2:S:=Cm (c8 m.rs||c8 (aT m.ps)) (dV s.H m.ps as) s1
  match bm E s2.H b (aT m.ps) (eR m.ps as) r.2 with
  | (_,H,b1)=>match aw E H b1 m.rs r.1 with
   | (vs,H,b2)=>match asa b2 (b+16) with
    | true=>k ({ s2 with H:=H }.put d (Ih vs))
    | false=>none
 | _,_=>none
structure Cx where
 P:Program
 kd:TypeId→Option K
 Γ:Nat→Option Nat→Option akx
 cz:Nat→Bool
 sp:Nat→Bool
abbrev Inl(Ω:Type):=Nat→Option Nat→List AV→S→(S→Option Ω)→Option Ω
def x9(ρ:Operand→AV)(ps:List (Nat×Operand)):List Nat:=ps.flatMap fun p=>match ρ p.2 with
 | .agg cs=>cs.filterMap sY
 | v=>(sY v).toList
def hY{Ω:Type}(C:Cx)(inl:Inl Ω)(o:Oper)(b:Nat)(s:S)(k:S→Option Ω):Option Ω:=
 match s.has o.dst with
 | false=>none
 | true=>match o.op with
  | .store t p x=>match o3 C.P t s (s.ev p) (s.ev x) with
   | some s=>k (s.put o.dst oZ)
   | none=>none
  | .call c=>match c.callee,c.args.toList,c.argTypes.toList with
   | .value (.func f),as,_=>match C.Γ f o.dst with
    | some m=>ww m s b o.dst (as.map s.ev) k
    | none=>inl f o.dst (as.map s.ev) s k
   | .builtin .append,[x,y],[t,u]=>match q8 C.P C.kd t u s b (s.ev x) (s.ev y) with
    | some (q,v,s)=>if q then k (s.put o.dst v) else none
    | none=>none
   | .builtin .copy,[x,y],[t,_]=>match Gm C.P t s (s.ev x) (s.ev y) with
    | some (v,s)=>k (s.put o.dst v)
    | none=>none
   | _,_,_=>match bD C.P C.kd s.ev s.H b o.op with
    | some (q,v,os)=>if q then k ({ s with H:=fe s.H b os }.put o.dst v) else none
    | none=>none
  | .slice t x lo hi none=>match s.ev x with
   | .own id=>match fu C.P s.H t (.own id) with
    | false=>none
    | true=>match lh s id (match o.dst with
     | some d=>C.cz d
     | none=>false) (lo.map s.ev) (hi.map s.ev) with
    | some (c,v,s)=>if c then k (s.put o.dst v) else none
    | none=>none
   | _=>match bD C.P C.kd s.ev s.H b (.slice t x lo hi none) with
    | some (c,v,os)=>if c then k ({ s with H:=fe s.H b os }.put o.dst v) else none
    | none=>none
  | .buildSlice t n ps=>
   let s:=(x9 s.ev ps.toList).foldl S.freeze s
   match bD C.P C.kd s.ev s.H b (.buildSlice t n ps) with
   | some (c,v,os)=>if c then k ({ s with H:=fe s.H b os }.put o.dst v) else none
   | none=>none
  | op=>match bD C.P C.kd s.ev s.H b op with
   | some (c,v,os)=>if c then k ({ s with H:=fe s.H b os }.put o.dst v) else none
   | none=>none
mutual
def p8:Sh→Bool
 | .int _=>true
 | .bool=>true
 | .str=>true
 | .agg l=>Db l
 | _=>false
def Db:List Sh→Bool
 | []=>true
 | h::l=>p8 h&&Db l
end
mutual
def ajz:(h:Sh)→LT h
 | .int _=>(0:Int)
 | .bool=>false
 | .str=>noB
 | .sl _=>[]
 | .row _ _=>[]
 | .fz _=>[]
 | .akl _ _=>[]
 | .abx _ _=>[]
 | .arr _=>[]
 | .same _=>()
 | .agg l=>A3 l
 | .box _ l=>A3 l
def A3:(l:List Sh)→LTs l
 | []=>()
 | h::l=>(ajz h,A3 l)
end
def spA(C:Cx)(b:Nat)(d:Option Nat)(ρ:Operand→AV)(H:Hp):Op→Option (Bool×AV)
 | .call c=>match c.callee,c.args.toList,c.argTypes.toList with
  | .value (.func f),as,_=>(C.Γ f d).bind fun m=>
   let E:Nat→AV:=fun i=>((as.map ρ)[i]?).getD .un
   match Db m.rs&&(aT m.ps).isEmpty&&(dp H m.ps (as.map ρ)).isEmpty&&(bQ H m.ps (as.map ρ)).isEmpty with
   | true=>(pX E H m.ps (as.map ρ)).bind fun x=>some ((m.g x).isSome,Ih (aw E H b m.rs ((m.g x).getD (A3 m.rs,A3 (aT m.ps))).1).1)
   | false=>none
  | .builtin .append,_,_=>none
  | .builtin .copy,_,_=>none
  | _,_,_=>match BZ C.P ρ H c with
   | some (q,v,[])=>some (q,v)
   | _=>none
 | .store _ _ _=>none
 | .buildSlice _ _ _=>none
 | .slice t x lo hi none=>match ρ x with
  | .own _=>none
  | _=>match bD C.P C.kd ρ H b (.slice t x lo hi none) with
   | some (q,v,[])=>some (q,v)
   | _=>none
 | op=>match bD C.P C.kd ρ H b op with
  | some (q,v,[])=>some (q,v)
  | _=>none
def eqW(c want:Bool):Bool:=match want with
 | true=>c
 | false=> !c
def bg(c q:Bool):Bool:=match q with
 | true=>true
 | false=> !c
def Ky(ops:Array Oper)(s:S):Nat→Oper→Option Bool
 | 0,_=>none
 | n+1,o=>match o.guard with
  | none=>some true
  | some (j,want)=>(ops[j]?).bind fun oj=>oj.dst.bind fun g=>match s.T g with
   | .lit (.bool c)=>some (eqW c want)
   | .lit (.tuple _)=>some false
   | .gd g' w' (.lit (.bool c))=>match oj.guard with
    | some (j',w2)=>match (ops[j']?).bind (·.dst) with
     | some g2=>match aqK g' g2,w' == w2 with
      | true,true=>(Ky ops s n oj).bind fun b=>some (b&&eqW c want)
      | _,_=>none
     | none=>none
    | none=>none
   | _=>none
def ajB(c:Option Bool)(q:Bool):Bool:=match c with
 | some c=>bg c q
 | none=>q
def aiZ:AV→Bool
 | .gd _ _ _=>false
 | _=>true
def S.narrow(s:S)(g:Nat)(w:Bool):S:={ s with T:=upd (fun t=>re g w (s.T t)) g (.b w) }
def evG{Ω:Type}(C:Cx)(inl:Inl Ω)(ops:Array Oper)(o:Oper)(b:Nat)(s:S)(k:S→Option Ω):Option Ω:=
 match o.guard with
 | none=>hY C inl o b s k
 | some (j,want)=>match (ops[j]?).bind (·.dst),(match o.dst with
   | some d=>C.sp d
   | none=>false) with
  | none,_=>none
  | some g,true=>match { s with gs:=upd s.gs g true }.has o.dst,spA C b o.dst (s.narrow g want).ev s.H o.op with
   | true,some (q,v)=>match aiZ v with
    | true=>if ajB (Ky ops s 4 o) q then k { s.put o.dst (.gd g want v) with gs:=upd s.gs g true } else none
    | false=>none
   | _,_=>none
  | some g,false=>match s.T g with
   | .lit (.bool c)=>
    let yes:Option Ω:=hY C inl o b { s with T:=upd s.T g (.b want) } k
    let no:Option Ω:=match s.has o.dst with
     | true=>k ({ s with T:=upd s.T g (.b (!want)) }.put o.dst oZ)
     | false=>none
    match want with
    | true=>if c then yes else no
    | false=>if c then no else yes
   | .lit (.tuple _)=>match s.has o.dst with
    | true=>k (s.put o.dst oZ)
    | false=>none
   | _=>none
def RZ{Ω:Type}(C:Cx)(inl:Inl Ω)(ops:Array Oper):List Oper→S→(S→Option Ω)→Option Ω
 | [],s,k=>k s
 | o::l,s,k=>evG C inl ops o s.nid s fun s=>RZ C inl ops l { s with nid:=s.nid+16 } k
def WD(Ω:Type):Inl Ω:=fun _ _ _ _ _=>none
mutual
def dB:Sh→Bool
 | .agg _=>false
 | .same _=>false
 | .arr _=>false
 | .box _ l=>jy l
 | _=>true
def jy:List Sh→Bool
 | []=>true
 | h::l=>dB h&&jy l
end
def ah5:Sh→Bool
 | .agg l=>jy l
 | .arr _=>true
 | h=>dB h
def Wm:List Sh→Bool
 | []=>true
 | h::l=>ah5 h&&Wm l
def okS(m:akx):Bool:=Wm m.rs&&jy (aT m.ps)
def GL(H:Hp)(x y:AV):List Nat:=match x with
 | .ptr id _ _ _=>match H id with
  | some (.row _ _ _ _)=>id::((kt y).getD []).filterMap sY
  | _=>[id]
 | _=>[]
def fzl(q:Bool)(l:List Nat):List Nat:=match q with
 | true=>l
 | false=>[]
def Qw(v:AV):List Nat:=(sY v).toList
def rb(C:Cx)(s:S)(o:Oper):Option (List Nat):=match o.op with
 | .store _ p x=>some (GL s.H (s.ev p) (s.ev x))
 | .call c=>match c.callee,c.args.toList with
  | .value (.func f),as=>match C.Γ f o.dst with
   | some m=>match (aT m.ps).isEmpty with
    | true=>some (dp s.H m.ps (as.map s.ev)++fzl (c8 m.rs||c8 (aT m.ps)) (dV s.H m.ps (as.map s.ev)))
    | false=>none
   | none=>none
  | .builtin .append,x::_=>some (Qw (s.ev x))
  | .builtin .copy,x::_=>some (Qw (s.ev x))
  | _,_=>some []
 | .slice _ x _ _ none=>some (Qw (s.ev x))
 | .buildSlice _ _ ps=>some (x9 s.ev ps.toList)
 | _=>some []
def On(C:Cx)(s:S)(o:Oper):List Nat:=match o.op with
 | .call c=>match c.callee,c.args.toList with
  | .value (.func f),as=>match C.Γ f o.dst with
   | some m=>dp s.H m.ps (as.map s.ev)++fzl (c8 m.rs||c8 (aT m.ps)) (dV s.H m.ps (as.map s.ev))
   | none=>[]
  | _,_=>[]
 | _=>[]
def okO(C:Cx)(o:Oper):Bool:=match o.op with
 | .call c=>match c.callee with
  | .value (.func f)=>match C.Γ f o.dst with
   | some m=>okS m
   | none=>false
  | _=>true
 | _=>true
mutual
def qY:Sh→Bool
 | .agg _=>false
 | .arr _=>false
 | .box _ l=>uU l
 | _=>true
def uU:List Sh→Bool
 | []=>true
 | h::l=>qY h&&uU l
end
def aiw:Sh→Bool
 | .agg l=>uU l
 | .arr _=>true
 | h=>qY h
def Cq:List Sh→Bool
 | []=>true
 | h::l=>aiw h&&Cq l
def Yy:AV→Option (List Nat)
 | .own id=>some [id]
 | .ptr id _ _ _=>some [id]
 | .agg _=>none
 | .tup _=>none
 | .gd _ _ _=>none
 | _=>some []
def ahn:List AV→Option (List Nat)
 | []=>some []
 | c::cs=>(Yy c).bind fun a=>(ahn cs).bind fun b=>some (a++b)
def Yx:AV→Option (List Nat)
 | .agg cs=>ahn cs
 | v=>Yy v
def ai5:List AV→Option (List Nat)
 | []=>some []
 | c::cs=>(Yx c).bind fun a=>(ai5 cs).bind fun b=>some (a++b)
def aho:AV→Option (List Nat)
 | .tup vs=>ai5 vs
 | v=>Yx v
def afu:AV→Option (List Nat)
 | .gd _ _ v=>aho v
 | v=>aho v
def bit(i:Nat):Nat:=Nat.shiftLeft 1 i
def msk:List Nat→Nat
 | []=>0
 | i::l=>arc (bit i) (msk l)
def nm(b:Nat):Nat:=Nat.shiftLeft 65535 b
def dsj(a b:Nat):Bool:=aqK (aul a b) 0
def sbs(a b:Nat):Bool:=aqK (aul a b) a
def tst(a i:Nat):Bool:= !(dsj a (bit i))
def agj(H:Hp)(id:Nat):Option (List Nat):=match H id with
 | some (.box _ cs)=>ahn cs
 | _=>some []
def Xc(H:Hp):List Nat→Option (List Nat)
 | []=>some []
 | i::l=>(agj H i).bind fun a=>(Xc H l).bind fun b=>some (a++b)
def clo(H:Hp):Nat→List Nat→Option Nat
 | 0,[]=>some 0
 | 0,_::_=>none
 | n+1,l=>match l with
  | []=>some 0
  | i::l=>(Xc H (i::l)).bind fun m=>(clo H n m).bind fun r=>some (arc (msk (i::l)) r)
def WZ(ops:Array Oper):Nat→Oper→List Nat
 | 0,_=>[]
 | n+1,o=>match o.guard with
  | none=>[]
  | some (j,_)=>match ops[j]? with
   | some oj=>oj.dst.toList++WZ ops n oj
   | none=>[]
abbrev cI(ops:Array Oper)(o:Oper):List Nat:=o.looksAt ops++WZ ops 4 o
def mov:Op→Bool
 | .move _=>true
 | .assign _=>true
 | .nilCheck _=>true
 | .binOp _ _ _ _ _=>true
 | .unOp _ _ _=>true
 | .fieldAddr _ _ _=>true
 | .field _ _ _=>true
 | .extract _ _=>true
 | .index _ _ _=>true
 | .build _ _=>true
 | _=>false
def pur(o:Oper):Bool:=match o.op with
 | .store _ _ _=>false
 | .call _=>false
 | .slice _ _ _ _ _=>false
 | .buildSlice _ _ _=>false
 | _=>true
structure Rec where
 i:Nat
 b:Nat
 F:Nat
 N:Nat
 W:Nat
 K:Nat
 anc:Nat
 V:List Nat
 o:Oper
def vW(i:Nat):List Rec→Option Rec
 | []=>none
 | r::l=>match aqK r.i i with
  | true=>some r
  | false=>vW i l
def V7(acc:List Rec):List Edge→Option Nat
 | []=>some 0
 | e::l=>match ar1 .any e with
  | true=>(vW e.on acc).bind fun r=>(V7 acc l).bind fun m=>some (arc (arc (bit e.on) r.anc) m)
  | false=>V7 acc l
def afo(t:Nat):Option Nat→Bool
 | some d=>aqK d t
 | none=>false
def ah9(t:Nat)(l:List Nat):Bool:=l.any fun x=>aqK x t
def aae(d:Option Nat)(l:List Nat):Bool:=match d with
 | some t=> !(ah9 t l)
 | none=>true
def af5(d e:Option Nat):Bool:=match d,e with
 | some a,some b=> !(aqK a b)
 | _,_=>true
def VR(t:Nat):List Rec→Option Rec
 | []=>none
 | r::l=>match afo t r.o.dst with
  | true=>some r
  | false=>VR t l
def abt(s0:S)(acc:List Rec):List Nat→Option (List Nat)
 | []=>some []
 | t::l=>(match VR t acc with
  | some r=>some r.V
  | none=>afu (s0.T t)).bind fun a=>(abt s0 acc l).bind fun b=>some (a++b)
def mvO(o:Oper):Bool:=mov o.op&&pur o&&o.guard.isNone
def H7(anc:Nat):List Rec→Nat→Nat
 | [],F=>F
 | r::l,F=>H7 anc l (match tst anc r.i&& !(dsj r.W F)&& !(mvO r.o) with
  | true=>arc r.F F
  | false=>F)
def aih(C:Cx)(ops:Array Oper)(s0:S)(o:Oper)(i b:Nat)(acc:List Rec)(s:S):Option Rec:=
 (V7 acc o.after.toList).bind fun anc=>(abt s0 acc (cI ops o)).bind fun l=>(clo s0.H 4 l).bind fun c=>
 let F:=match mvO o with
  | true=>arc (msk l) (nm b)
  | false=>H7 anc acc (arc c (nm b))
 let W:=match rb C s o with
  | none=>F
  | some l=>arc (msk l) (nm b)
 let K:=match rb C s o with
  | none=>arc (msk (On C s o)) (nm b)
  | some l=>arc (msk l) (nm b)
 let N:=match mvO o with
  | true=>nm b
  | false=>match pur o,o.guard with
   | true,none=>arc (msk l) (nm b)
   | _,_=>F
 match sbs W F with
 | true=>some { i:=i,b:=b,F:=F,N:=N,W:=W,K:=K,anc:=anc,V:=[],o:=o }
 | false=>none
def ajN:Op→Bool
 | .load _ _=>true
 | _=>false
def ajr(C:Cx)(ops:Array Oper)(s:S):Nat→Nat→AV
 | 0,t=>s.T t
 | n+1,t=>match ops.toList.find? (fun o=>afo t o.dst) with
  | none=>s.T t
  | some o=>match mov o.op||ajN o.op with
   | true=>(match bD C.P C.kd (fun x=>match x with
     | .tmp t=>ajr C ops s n t
     | x=>s.ev x) s.H s.nid o.op with
    | some (_,v,_)=>v
    | none=> .un)
   | false=> .un
def ajG(o:Oper):Option Nat:=match o.op with
 | .slice _ (.tmp x) _ _ none=>some x
 | _=>none
def aja:List Nat→List Nat
 | []=>[]
 | i::l=>match l.any (aqK i) with
  | true=>i::aja l
  | false=>aja l
def acK(C:Cx)(ops:Array Oper)(s:S):List Nat:=match ops.toList.filterMap ajG with
 | []=>[]
 | [_]=>[]
 | xs=>aja (xs.filterMap fun x=>sY (ajr C ops s 4 x))
def chk(ops:Array Oper)(x r:Rec):Bool:=
 af5 x.o.dst r.o.dst&&match tst r.anc x.i with
  | true=>(dsj x.W r.N||sbs x.F r.F)&&(aae x.o.dst (cI ops r.o)||(sbs (msk x.V) r.F&&(mov r.o.op||sbs (msk x.V) r.N)))&&dsj x.F (nm r.b)
  | false=>(dsj x.K r.F&&dsj r.K x.F)&&(dsj x.W r.N&&dsj r.W x.N)&&(dsj x.W r.W&&(dsj x.F (nm r.b)&&dsj r.F (nm x.b)))&&aae x.o.dst (cI ops r.o)&&aae r.o.dst (cI ops x.o)
def vOf(s:S):Option Nat→Option (List Nat)
 | none=>some []
 | some t=>afu (s.T t)
def evD{Ω:Type}(C:Cx)(ops:Array Oper)(s0:S):List Oper→Nat→Nat→List Rec→S→(S→Option Ω)→Option Ω
 | [],_,b,_,s,k=>k { s with nid:=b }
 | o::l,i,b,acc,s,k=>match aih C ops s0 o i b acc s with
  | none=>none
  | some r=>match acc.all (fun x=>chk ops x r)&&okO C o&&aae o.dst (cI ops o) with
   | true=>evG C (WD Ω) ops o b s fun s'=>(vOf s' o.dst).bind fun V=>evD C ops s0 l (i+1) (b+16) ({ r with V:=V } ::acc) s' k
   | false=>none
abbrev Sch:=List (Nat×Sh)
abbrev Lv(c:Sch):Type:=LTs (c.map (·.2))
def Ww(H:Hp)(T:Nat→AV):(c:Sch)→Option (Lv c)
 | []=>some ()
 | (t,h)::c=>(dW T H h (T t)).bind fun x=>(Ww H T c).bind fun xs=>some (x,xs)
def AQ(H:Hp)(T:Nat→AV):Sch→List Nat
 | []=>[]
 | (t,h)::c=>je H h (T t)++AQ H T c
def W0(H:Hp)(T:Nat→AV):Sch→List Nat
 | []=>[]
 | (t,h)::c=>jQ H h (T t)++W0 H T c
def uM(T:Nat→AV)(H:Hp)(b:Nat):(c:Sch)→Lv c→(Nat→AV)×Hp×Nat
 | [],_=>(T,H,b)
 | (t,h)::c,x=>match ch T H b h x.1 with
  | (v,H,b)=>uM (upd T t v) H b c x.2
def mkS(n:Nat)(p:List Nat)(c:Sch)(x:Lv c):S:=match uM (fun _=> .un) (fun _=>none) 0 c x with
 | (T,H,b)=>{ n:=n,T:=T,H:=H,nid:=b,st:=[],pins:=p,gs:=fun _=>false }
def aie(n:Nat)(c:Sch):Bool:=Nj (c.map (·.1))&&Cq (c.map (·.2))&&c.all fun x=>as7 x.1 n
def rdS(c:Sch)(s:S):Option (Lv c):=match s.st,Nj (AQ s.H s.T c)&&off (W0 s.H s.T c) (AQ s.H s.T c),aie s.n c with
 | [],true,true=>Ww s.H s.T c
 | _,_,_=>none
structure Loop where
 sch:Sch
 alJ:Sch
 xid:Nat
 alI:Sch
 run:Lv sch→Option (Lv alI ⊕ Lv alJ)
inductive Adv where
 | nil
 | one (a:Adv)
 | two (a b:Adv)
 | join (c:Sch) (a b:Adv)
 | loop (l:Loop)
def Adv.a:Adv→Adv
 | .one a=>a
 | .two a _=>a
 | .join _ a _=>a
 | _=> .nil
def Adv.z:Adv→Adv
 | .two _ b=>b
 | .join _ _ b=>b
 | _=> .nil
structure Kt (Ω:Type) where
 nrm:S→Option Ω
 ret:S→Option Ω
 ext:Nat→S→Option Ω
def bB{Ω X:Type}(f:X→Option Ω)(m:Option (Ω ⊕ X)):Option Ω:=m.bind fun r=>match r with
 | .inl o=>some o
 | .inr x=>f x
def aJ{A D Ω:Type}(m:Option (A ⊕ D))(f:A→Option Ω)(g:D→Option Ω):Option Ω:=m.bind fun r=>match r with
 | .inl a=>f a
 | .inr b=>g b
def vM{X Y:Type}(b:X→Option (X ⊕ Y)):Nat→X→Option Y
 | 0,_=>none
 | n+1,x=>(b x).bind fun r=>match r with
  | .inl y=>vM b n y
  | .inr z=>some z
open Classical in
def aR {X Y:Type} (b:X→Option (X ⊕ Y)) (x:X):Option Y:=
 if h: ∃ n y,vM b n x=some y then some (as3 (arV h)) else none
def evk(C:Cx)(inl:(Ω:Type)→Inl Ω):Code→(Ω:Type)→Adv→Kt Ω→S→Option Ω
 | .skip,_,_,k,s=>k.nrm s
 | .region _ ops false,Ω,_,k,s=>RZ C (inl Ω) ops ops.toList s k.nrm
 | .region _ ops true,_,_,k,s=>evD C ops ((acK C ops s).foldl S.freeze s) ops.toList 0 s.nid [] ((acK C ops s).foldl S.freeze s) k.nrm
 | .seq a b,Ω,.join c u v,k,s=>
  bB (fun x=>evk C inl b Ω v k (mkS s.n s.pins c x)) (evk C inl a (Ω ⊕ Lv c) u { nrm:=fun s=>(rdS c s).bind fun x=>some (.inr x),ret:=fun s=>(k.ret s).bind fun o=>some (.inl o),ext:=fun j s=>(k.ext j s).bind fun o=>some (.inl o) } s)
 | .seq a b,Ω,v,k,s=>evk C inl a Ω v.a { k with nrm:=evk C inl b Ω v.z k } s
 | .cond c x y,Ω,v,k,s=>match s.ev c with
  | .lit (.bool b)=>if b then evk C inl x Ω v.a k s else evk C inl y Ω v.z k s
  | _=>none
 | .block id c,Ω,v,k,s=>evk C inl c Ω v.a { k with ext:=fun j s=>match aqK j id with
  | true=>k.nrm s
  | false=>k.ext j s } s
 | .loop _,_,.loop l,k,s=>(rdS l.sch s).bind fun x=>aJ (l.run x) (fun y=>k.ret (mkS s.n s.pins l.alI y)) (fun y=>k.ext l.xid (mkS s.n s.pins l.alJ y))
 | .exit id,_,_,k,s=>k.ext id s
 | .ret,_,_,k,s=>k.ret s
 | _,_,_,_,_=>none
def Et(P:Program)(s:S):List ResultVar→Option (List AV)
 | []=>some []
 | .tmp t::l=>(Et P s l).bind fun vs=>some (s.T t::vs)
 | .cell a t::l=>(C9 P s.H t (s.T a)).bind fun v=>(Et P s l).bind fun vs=>some (v::vs)
def dL(i:Nat):List Sh→List Nat
 | []=>[]
 | h::ps=>match Yr h with
  | true=>i::dL (i+1) ps
  | false=>dL (i+1) ps
def adf(n:Nat)(ps:List Sh)(x:LTs ps):S:=match aw (fun _=> .un) (fun _=>none) 0 ps x with
 | (vs,H,b)=>{ n:=n,T:=fun t=>(vs[t]?).getD oZ,H:=H,nid:=b,st:=[],pins:=dL 0 ps,gs:=fun _=>false }
def fin(P:Program)(fn:Func)(m:akx)(s:S):Option (LTs m.rs×LTs (aT m.ps)):=
 (Et P s fn.results.toList).bind fun vs=>
 match Nj (bQ s.H (m.rs++aT m.ps) (vs++(dL 0 m.ps).map s.T))&&off (dV s.H (m.rs++aT m.ps) (vs++(dL 0 m.ps).map s.T)) (bQ s.H (m.rs++aT m.ps) (vs++(dL 0 m.ps).map s.T)) with
 | true=>(pX s.T s.H m.rs vs).bind fun r=>(pX s.T s.H (aT m.ps) ((dL 0 m.ps).map s.T)).bind fun q=>some (r,q)
 | false=>none
def evF(C:Cx)(inl:(Ω:Type)→Inl Ω)(fn:Func)(body:Code)(v:Adv)(m:akx)(x:LTs m.ps):Option (LTs m.rs×LTs (aT m.ps)):=
 evk C inl body _ v { nrm:=fin C.P fn m,ret:=fin C.P fn m,ext:=fun _ _=>none } (adf fn.ntmps m.ps x)
def ahD(C:Cx)(inl:(Ω:Type)→Inl Ω)(fn:Func)(v:Adv)(m:akx)(x:LTs m.ps):Option (LTs m.rs×LTs (aT m.ps)):=
 match fn.body with
 | some b=>evF C inl fn b v m x
 | none=>none
def aay:List Nat→Code→Code
 | [],c=>c
 | 0::l,.seq a _=>aay l a
 | 1::l,.seq _ b=>aay l b
 | 0::l,.cond _ a _=>aay l a
 | 1::l,.cond _ _ b=>aay l b
 | 0::l,.block _ a=>aay l a
 | 0::l,.loop a=>aay l a
 | _::_,c=>c
def yD(fn:Func):Code:=fn.body.getD .skip
def evL(C:Cx)(inl:(Ω:Type)→Inl Ω)(n:Nat)(p:List Nat)(c:Code)(v:Adv)(l:Loop)(x:Lv l.sch):Option (Lv l.sch ⊕ (Lv l.alI ⊕ Lv l.alJ)):=
 evk C inl c _ v { nrm:=fun s=>(rdS l.sch s).bind fun y=>some (.inl y),ret:=fun s=>(rdS l.alI s).bind fun y=>some (.inr (.inl y)),ext:=fun j s=>match aqK j l.xid with
  | true=>(rdS l.alJ s).bind fun y=>some (.inr (.inr y))
  | false=>none } (mkS n p l.sch x)
def af:(Ω:Type)→Inl Ω:=WD
def aaM:AV→AV
 | .gd _ _ _=> .un
 | v=>v
def plB:AV→Bool
 | .tup _=>false
 | .gd _ _ _=>false
 | _=>true
def aar(C:Cx):Nat→(Ω:Type)→Inl Ω
 | 0=>af
 | n+1=>fun Ω f d as s k=>match C.P.funcs[f]? with
  | none=>none
  | some fn=>match fn.body,fn.name == "runtime.NumGoroutine" with
   | some body,false=>
    let back:S→Option Ω:=fun s'=>match s'.st,Et C.P s' fn.results.toList with
     | T::st,some vs=>match vs.all plB with
      | true=>k ({ s' with n:=s.n,T:=fun t=>aaM (T t),st:=st,pins:=s.pins,gs:=fun _=>false }.put d (Ih vs))
      | false=>none
     | _,_=>none
    match aqK as.length fn.params.size&&asa as.length fn.ntmps&&as.all plB with
    | true=>evk C (aar C n) body Ω .nil { nrm:=back,ret:=back,ext:=fun _ _=>none } { s with n:=fn.ntmps,T:=fun t=>(as[t]?).getD oZ,st:=s.T::s.st,pins:=[],gs:=fun _=>false }
    | false=>none
   | _,_=>none
end Go.VS
end
