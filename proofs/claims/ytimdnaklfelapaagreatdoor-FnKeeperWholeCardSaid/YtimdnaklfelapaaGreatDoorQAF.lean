/- An evaluator of the program's own code with its soundness, the printed texts of the functions, and plain laws of them (part 6). -/
import Derived.Laws.StructEq
import Derived.Laws.BytesArg
import Derived.Test.YtimdnaklfelapaaGreatDoorQAE
set_option linter.unusedVariables false
set_option linter.unusedSimpArgs false
set_option linter.defProp false
open Bool renaming and_eq_true→aqt,not_eq_true'→aro
open Go renaming binOp→asO
open Go.ByteArray renaming toList_eq→auY
open Go.Op renaming eqFields→aua,stringOp→au8
open Go.Result renaming andThen_ok→arE
open Go.Sem renaming run_bind→arY,run_pure→ar8
open List renaming append_assoc→aqP,eq_nil_of_length_eq_zero→aq2,getElem?_append_right→arj,getElem?_eq_some_iff→aqF,map_cons→arx,singleton_append→auC,take_add_one→ati
open Nat renaming beq→aqK,min_eq_left→atO
open Option renaming bind_some→aqs
open Option.some renaming injEq→aqI
open Prod.mk renaming injEq→arb
noncomputable section
namespace Go.VS
open Go
def GJ(a b:aqp):(a.toList == b.toList)=decide (a=b):=by
 by_cases h:a=b
 ·subst h;simp
 ·have:a.toList≠b.toList:=fun e=>h (by
   rw[auY,auY]at e;obtain⟨⟨x⟩⟩:=a;obtain⟨⟨y⟩⟩:=b;simp at e;subst e;rfl)
  simp[h,this]
section
variable {P:Program} {B:ake} {β:Beta} {H:Hp} {w:World} {b:Nat} {tm:Nat→Value} {ρ:Operand→AV} {η:Operand→Value}
def adU{op:BinOp}{k:IntKind}{x y:Int}{q:Bool}{v:AV}{os:List Ob}(h:agp op k x y=some (q,v,os))(hq:q=true)(t:TypeId):
  ∃ u,(asO op t (.int k x) (.int k y)).run P w= .ok u w∧os=[]∧v= .lit u:=by
 subst hq;cases op<;>simp only[agp]at h
 case quo=>
  simp only[aqI,arb,aro,decide_eq_false_iff_not]at h;obtain⟨h1,rfl,rfl⟩:=h;exact⟨_,by simp[asO,Op.intDiv,h1],rfl,rfl⟩
 case rem=>
  simp only[aqI,arb,aro,decide_eq_false_iff_not]at h;obtain⟨h1,rfl,rfl⟩:=h;exact⟨_,by simp[asO,Op.intDiv,h1],rfl,rfl⟩
 case shl=>cases h
 case shr=>cases h
 case andNot=>cases h
 case add | sub | mul | and | or | xor=>
  obtain⟨rfl,_,rfl⟩:=bq h;exact⟨_,by simp[asO,Op.intArith,Op.intBits,te,ajw,ior],rfl,rfl⟩
 all_goals
  obtain⟨rfl,_,rfl⟩:=bq h;refine⟨_, ?_,rfl,rfl⟩;simp only[asO,Op.intCmp]
  first | rfl | (simp only[ne_eq,not_true_eq_false,if_false,ar8,Result.ok.injEq,Value.bool.injEq,and_true];done) | (by_cases hh:x=y<;>simp[hh])
def adT{op:BinOp}{x y:aqp}{q:Bool}{v:AV}{os:List Ob}(h:ago op x y=some (q,v,os))(hq:q=true)(t:TypeId):
  ∃ u,(asO op t (.string x) (.string y)).run P w= .ok u w∧os=[]∧v= .lit u:=by
 subst hq;cases op<;>simp only[ago]at h<;>try cases h
 case add=>
  simp only[aqI,arb,decide_eq_true_eq]at h;obtain⟨h1,rfl,rfl⟩:=h;refine⟨.string (x++y), ?_,rfl,rfl⟩;have h2: ¬ (((x.size+y.size:Nat):Int) > IntKind.i64.max):=by
   have e:IntKind.i64.max=9223372036854775807:=by decide
   rw[e];omega
  simp only[asO,au8,aqg h2,ar8]
 case eql=>
  exact⟨_,by simp only[asO,au8,ar8,GJ],rfl,rfl⟩
 case neq=>
  exact⟨_,by simp only[asO,au8,ar8,GJ],rfl,rfl⟩
def sA(op:BinOp)(t:TypeId)(x y:Operand)(u v:Value)(h:u.oneCell'=true)(hn:u≠ .nilIface):(eqGuard op t x y u v).run P w= .ok () w:=by
 cases op<;>cases u<;>first | rfl | exact absurd rfl hn | (cases v<;>first | rfl | cases h)
def RC.amm{x v:Value}(h:RC w β (.lit x) v):v=x:=by cases h;rfl
def af3{cs ds:List AV}{r:Bool}(h:eqC cs ds=some r): ∀ {us vs:List Value},RL (RC w β) cs us→RL (RC w β) ds vs→eqC (us.map .lit) (vs.map .lit)=some r∧cs=us.map .lit:=by
 induction cs generalizing ds r with
 | nil=>
  intro us vs h1 h2;cases ds with
  | nil=>rw[h1.of_nil,h2.of_nil];exact⟨h,rfl⟩
  | cons d ds=>simp[eqC]at h
 | cons c cs ih=>
  intro us vs h1 h2;cases ds with
  | nil=>cases c<;>simp[eqC]at h
  | cons d ds=>
   obtain⟨u,us,rfl,hu,hus⟩:=h1.aj2;obtain⟨v,vs,rfl,hv,hvs⟩:=h2.aj2;cases c<;>try (simp[eqC]at h;done)
   rename_i cv;cases d<;>try (cases cv<;>simp[eqC]at h;done)
   rename_i dv;obtain rfl:=hu.amm;obtain rfl:=hv.amm;cases u<;>try (simp[eqC]at h;done)
   all_goals cases v<;>try (simp[eqC]at h;done)
   case int.int=>
    simp only[eqC]at h;split at h
    ·rename_i hk;cases hr:eqC cs ds with
     | none=>rw[hr]at h;cases h
     | some r'=>
      rw[hr]at h;obtain⟨i1,i2⟩:=ih hr hus hvs;refine⟨?_,by simp[i2]⟩;simp only[arx,eqC,hk,i1];exact h
    ·cases h
   case bool.bool=>
    simp only[eqC]at h;cases hr:eqC cs ds with
    | none=>rw[hr]at h;cases h
    | some r'=>
     rw[hr]at h;obtain⟨i1,i2⟩:=ih hr hus hvs;refine⟨?_,by simp[i2]⟩;simp only[arx,eqC,i1];exact h
   case string.string=>
    simp only[eqC]at h;cases hr:eqC cs ds with
    | none=>rw[hr]at h;cases h
    | some r'=>
     rw[hr]at h;obtain⟨i1,i2⟩:=ih hr hus hvs;refine⟨?_,by simp[i2]⟩;simp only[arx,eqC,i1];exact h
def Qu{t:TypeId}{us:List Value}{n:Nat}{u:Value}(hu:us[n]? =some u)(ha:UY P t=some false):(part t us.toArray n).run P w= .ok u w:=by
 unfold part;simp[Af ha,hu]
def YO(d:Nat): ∀ (fs:List Field) (n:Nat) (us vs us' vs':List Value) (r:Bool),abG P n fs (us'.map .lit)=true→fs.length=us'.length→us=us.take n++us'→n≤us.length→vs=vs.take n++vs'→n≤vs.length→
  eqC (us'.map .lit) (vs'.map .lit)=some r→(aua (d+1) us.toArray vs.toArray fs).run P w= .ok r w
 | [],n,us,vs,us',vs',r,_,hl,_,_,_,_,h=>by
  obtain rfl:us'=[]:=aq2 (by simpa using hl.symm);cases vs' with
  | nil=>simp[eqC]at h;subst h;simp[aua]
  | cons v vs'=>simp[eqC]at h
 | f::fs,n,us,vs,us',vs',r,hf,hl,hu,hn,hv,hn',h=>by
  cases us' with
  | nil=>simp at hl
  | cons u us'=>
  cases vs' with
  | nil=>cases u<;>simp[eqC]at h
  | cons v vs'=>
  simp only[arx,abG,aqt,aro]at hf;obtain⟨⟨⟨hk,ho⟩,akN⟩,hf⟩:=hf;have ho:=aD ho;have hu1:us[n]? =some u:=by
   rw[hu,arj (by simp;omega)];simp[atO hn]
  have hv1:vs[n]? =some v:=by
   rw[hv,arj (by simp;omega)];simp[atO hn']
  have hlu:n < us.length:=(aqF.1 hu1).1;have hlv:n < vs.length:=(aqF.1 hv1).1;have hu2:us=us.take (n+1)++us':=by
   rw[ati,hu1];simp only[Option.toList_some,aqP,auC];exact hu
  have hv2:vs=vs.take (n+1)++vs':=by
   rw[ati,hv1];simp only[Option.toList_some,aqP,auC];exact hv
  have alT: ¬ f.name= "_" :=by simpa using akN
  have apl:=fun r h=>YO d fs (n+1) us vs us' vs' r hf (by simpa using hl) hu2 hlu hv2 hlv h;have fin: ∀ (q r':Bool),UY P f.type=some false→(Op.equalIn (d+1) f.type u v).run P w= .ok q w→eqC (us'.map .lit) (vs'.map .lit)=some r'→r=(q&&r')→
    (aua (d+1) us.toArray vs.toArray (f::fs)).run P w= .ok r w:=by
   intro q r' ha h1 h2 h3;simp only[aua,ne_eq,alT,not_false_eq_true,aqm,ho,arY,Qu hu1 ha,Qu hv1 ha,arE,h1];cases q with
   | false=>simp[h3]
   | true=>simpa[h3] using apl r' h2
  have ag: ∀ {ty},P.underlying f.type=some ty→(match ty with | .bool=>True | .int _=>True | .string=>True | _=>False)→UY P f.type=some false:=by
   intro ty h1 h2;unfold UY;rw[h1];cases ty<;>first | rfl | exact h2.elim
  have op: ∀ (q r':Bool),eqC (us'.map .lit) (vs'.map .lit)=some r'→r=(q&&r')→(∀ ty,P.underlying f.type=some ty→(match ty with | .bool=>True | .int _=>True | .string=>True | _=>False)→(Op.equalIn (d+1) f.type u v).run P w= .ok q w)→
    (∃ ty,P.underlying f.type=some ty∧(match ty with | .bool=>True | .int _=>True | .string=>True | _=>False))→(aua (d+1) us.toArray vs.toArray (f::fs)).run P w= .ok r w:=by
   rintro q r' h1 h2 h3 ⟨ty,h4,h5⟩;exact fin q r' (ag h4 h5) (h3 ty h4 h5) h1 h2
  cases u<;>try (simp[eqC]at h;done)
  all_goals cases v<;>try (simp[eqC]at h;done)
  case int.int k a k' c=>
   simp only[arx,eqC]at h;split at h
   ·rename_i hkk;obtain rfl:k=k':=by simpa using hkk
    cases hr:eqC (us'.map .lit) (vs'.map .lit) with
    | none=>rw[hr]at h;cases h
    | some r'=>
     rw[hr]at h;simp only[aqs,aqI]at h;split at hk<;>try (rename_i e;cases e;done)
     ·rename_i k2 _ _ hh _;refine fin (a == c) r' (ag hh trivial) (run_equalIn_int w d f.type k k2 a c hh) hr ?_;rw[← h];by_cases e:a=c<;>simp[e]
     ·cases hk
   ·cases h
  case bool.bool a c=>
   simp only[arx,eqC]at h;cases hr:eqC (us'.map .lit) (vs'.map .lit) with
   | none=>rw[hr]at h;cases h
   | some r'=>
    rw[hr]at h;simp only[aqs,aqI]at h;split at hk<;>try (rename_i e;cases e;done)
    ·rename_i hh _;refine fin (a == c) r' (ag hh trivial) (run_equalIn_bool' w d f.type a c hh) hr ?_;rw[← h];by_cases e:a=c<;>simp[e]
    ·cases hk
  case string.string a c=>
   simp only[arx,eqC]at h;cases hr:eqC (us'.map .lit) (vs'.map .lit) with
   | none=>rw[hr]at h;cases h
   | some r'=>
    rw[hr]at h;simp only[aqs,aqI]at h;split at hk<;>try (rename_i e;cases e;done)
    ·rename_i hh _;refine fin (a.toList == c.toList) r' (ag hh trivial) (run_equalIn_string w d f.type a c hh) hr ?_;rw[← h,GJ]
    ·cases hk
def aaU(hη: ∀ x,RX w β tm (ρ x) (η x))(hH:Hs B β H w){op:BinOp}{t:TypeId}{x y:Operand}{q:Bool}{v:AV}{os:List Ob}(h:aaV P op t (ρ x) (ρ y)=some (q,v,os))(hq:q=true)
  {o:Oper}(ho:(execOp η o).run P w=((do eqGuard op t x y (η x) (η y);asO op t (η x) (η y):Sem Value).run P w).andThen fun u w=> .ok (.value u) w):Good B β H w b v os ((execOp η o).run P w):=by
 rw[ho];have hx:=hη x;have hy:=hη y;have fin: ∀ u,(eqGuard op t x y (η x) (η y)).run P w= .ok () w→(asO op t (η x) (η y)).run P w= .ok u w→os=[]→R2 w β v u→
   Good B β H w b v os (((do eqGuard op t x y (η x) (η y);asO op t (η x) (η y):Sem Value).run P w).andThen fun u w=> .ok (.value u) w):=by
  intro u h1 h2 h3 h4;subst h3;refine Good.same hH (u:=u) ?_ h4;simp[h1,h2]
 generalize ρ x=c at h hx;generalize ρ y=c' at h hy;generalize η x=vx at hx fin;generalize η y=vy at hy fin;unfold aaV at h;split at h
 ·rename_i k a k' c;split at h
  ·rename_i hk;obtain rfl:k=k':=by simpa using hk
   obtain rfl:=hx.lit;obtain rfl:=hy.lit;obtain⟨u,h1,h2,rfl⟩:=adU (P:=P) (w:=w) h hq t;exact fin u (sA _ _ _ _ _ _ rfl (by simp)) h1 h2 rfl
  ·cases h
 ·obtain rfl:=hx.lit;obtain rfl:=hy.lit;obtain⟨u,h1,h2,rfl⟩:=adT (P:=P) (w:=w) h hq t;exact fin u (sA _ _ _ _ _ _ rfl (by simp)) h1 h2 rfl
 ·rename_i a c;obtain rfl:=hx.lit;obtain rfl:=hy.lit;split at h
  ·rename_i hu;obtain⟨rfl,_,h3⟩:=bq h;refine fin (.bool (decide (a=c))) (sA _ _ _ _ _ _ rfl (by simp)) ?_ h3 rfl;simp only[asO,arY,Op.equal,Op.maxDepth,run_equalIn_bool' w _ t a c hu,arE,ar8];by_cases e:a=c<;>simp[e]
  ·rename_i hu;obtain⟨rfl,_,h3⟩:=bq h;refine fin (.bool (!decide (a=c))) (sA _ _ _ _ _ _ rfl (by simp)) ?_ h3 rfl;simp only[asO,arY,Op.equal,Op.maxDepth,run_equalIn_bool' w _ t a c hu,arE,ar8];by_cases e:a=c<;>simp[e]
  ·cases h
 ·rename_i cs ds;obtain⟨us,rfl,hl⟩:=RX.agg hx;obtain⟨vs,rfl,hm⟩:=RX.agg hy;have key: ∀ r,afR P t cs=true→aqK cs.length ds.length=true→eqC cs ds=some r→
    (Op.equalIn 10000 t (.agg us.toArray) (.agg vs.toArray)).run P w= .ok r w∧(∀ op,(eqGuard op t x y (.agg us.toArray) (.agg vs.toArray)).run P w= .ok () w):=by
   intro r h1 h2 h3;unfold afR at h1;split at h1
   ·rename_i fs hu;simp only[aqt,aro]at h1;obtain⟨⟨⟨h4,h5⟩,h6⟩,h7⟩:=h1;have hfo:P.fieldsOf t=fs:=by simp[Program.fieldsOf,hu]
    obtain⟨e1,e2⟩:=af3 h3 hl hm;subst e2;refine⟨?_,fun op=>run_eqGuard_agg w op t x y _ _ h7⟩;rw[run_equalIn_struct w 9999 t _ _ (by rw[hfo];exact hu) h6,hfo];refine YO 9998 fs.toList 0 us vs us vs r h4 ?_ (by simp) (by simp) (by simp) (by simp) e1;have:=aD h5;simpa using this
   ·cases h1
  split at h
  ·rename_i r h1 h2 h3;obtain⟨rfl,_,h4⟩:=bq h;obtain⟨k1,k2⟩:=key r h1 h2 h3;refine fin (.bool r) (k2 _) ?_ h4 rfl;rw[run_eql_struct,k1];rfl
  ·rename_i r h1 h2 h3;obtain⟨rfl,_,h4⟩:=bq h;obtain⟨k1,k2⟩:=key r h1 h2 h3;refine fin (.bool (!r)) (k2 _) ?_ h4 rfl;rw[run_neq_struct,k1];rfl
  ·cases h
 ·cases h
def ab3(hη: ∀ x,RX w β tm (ρ x) (η x))(hH:Hs B β H w){op:UnOp}{x:Operand}{q:Bool}{v:AV}{os:List Ob}(h:unA op (ρ x)=some (q,v,os)):
  Good B β H w b v os (((Op.unary op (η x)).run P w).andThen fun u w=> .ok (.value u) w):=by
 have hx:=hη x;generalize ρ x=c at h hx;unfold unA at h;split at h
 ·obtain⟨rfl,_,rfl⟩:=bq h;rw[hx.lit];exact Good.same hH (u:= .bool _) (by simp[Op.unary]) rfl
 ·obtain⟨rfl,_,rfl⟩:=bq h;rw[hx.lit];exact Good.same hH (u:= .int _ _) (by simp[Op.unary,Op.intArith]) rfl
 ·cases h
end
end Go.VS
end
