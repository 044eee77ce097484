/- Part 6. -/
import Derived.Laws.StructEq
import Derived.Laws.BytesArg
import Derived.Test.YtgjljlpdfceilaaGreatDoorQAE
open Bool renaming and_eq_true->AG,false->A3,not_eq_true'->C1,true->U
open Decidable renaming decide->A1
open Go renaming binOp->IZ
open Go.ByteArray renaming toList_eq->aFQ
open Go.Op renaming eqFields->Us,stringOp->pf
open Go.Result renaming andThen_ok->FH
open Go.Sem renaming run_bind->Ex,run_pure->G5
open List renaming append_assoc->C9,eq_nil_of_length_eq_zero->E7,getElem?_append_right->Fo,getElem?_eq_some_iff->BP,map_cons->Db,singleton_append->aFE,take_add_one->JC
open Nat renaming beq->Al,min_eq_left->S3
open Option renaming bind_some->A9,some->I
open Option.some renaming injEq->Bz
open Prod.mk renaming injEq->CX
set_option linter.all false
noncomputable section
namespace Go.VS
open Go
def nB(a b:A4):(a.toList == b.toList)=A1 (a=b):=by
 by_cases h:a=b
 .subst h;simp
 .have:a.toList≠b.toList:=λe=>h (by
   rw[aFQ,aFQ]at e;obtain⟨⟨x⟩⟩:=a;obtain⟨⟨y⟩⟩:=b;simp at e;subst e;rfl)
  simp[h,this]
section
variable {P:Program} {B:Bg} {β:Beta} {H:Hp} {w:World} {b:Nat} {tm:Nat->Value} {ρ:Operand->AV} {η:Operand->Value}
def au8{op:BinOp}{k:IntKind}{x y:Int}{q:Bool}{v:AV}{os:List Ob}(h:VV op k x y=I (q,v,os))(hq:q=U)(t:TypeId):
  ∃u,(IZ op t (.int k x)<|.int k y).run P w= .ok u w/\os=[]/\v= .lit u:=by
 subst hq;cases op<;>simp only[VV]at h
 case quo=>
  simp only[Bz,CX,C1,decide_eq_false_iff_not]at h;obtain⟨h1,rfl,rfl⟩:=h;exact⟨_,by simp[IZ,Op.intDiv,h1],rfl,rfl⟩
 case rem=>
  simp only[Bz,CX,C1,decide_eq_false_iff_not]at h;obtain⟨h1,rfl,rfl⟩:=h;exact⟨_,by simp[IZ,Op.intDiv,h1],rfl,rfl⟩
 case shl=>cases h
 case shr=>cases h
 case andNot=>cases h
 case add|sub|mul|and|or|xor=>
  obtain⟨rfl,_,rfl⟩:=DV h;exact⟨_,by simp[IZ,Op.intArith,Op.intBits,E4,abQ,ior],rfl,rfl⟩
 all_goals
  obtain⟨rfl,_,rfl⟩:=DV h;refine⟨_, ?_,rfl,rfl⟩;simp only[IZ,Op.intCmp]
  first|rfl|(simp only[ne_eq,not_true_eq_false,if_false,G5,Result.ok.injEq,Value.bool.injEq,and_true];done)|(by_cases hh:x=y<;>simp[hh])
def au7{op:BinOp}{x y:A4}{q:Bool}{v:AV}{os:List Ob}(h:VU op x y=I (q,v,os))(hq:q=U)(t:TypeId):
  ∃u,(IZ op t (.string x)<|.string y).run P w= .ok u w/\os=[]/\v= .lit u:=by
 subst hq;cases op<;>simp only[VU]at h<;>try cases h
 case add=>
  simp only[Bz,CX,decide_eq_true_eq]at h;obtain⟨h1,rfl,rfl⟩:=h;refine⟨.string<|x++y, ?_,rfl,rfl⟩;have h2:¬(((x.size+y.size:Nat):Int) > IntKind.i64.max):=by
   have e:IntKind.i64.max=9223372036854775807:=by decide
   rw[e];omega
  simp only[IZ,pf,AD h2,G5]
 case eql=>
  exact⟨_,by simp only[IZ,pf,G5,nB],rfl,rfl⟩
 case neq=>
  exact⟨_,by simp only[IZ,pf,G5,nB],rfl,rfl⟩
def jn(op:BinOp)(t:TypeId)(x y:Operand)(u v:Value)(h:u.oneCell'=U)(hn:u≠ .nilIface):(eqGuard op t x y u v).run P w= .ok () w:=by
 cases op<;>cases u<;>first|rfl|exact absurd rfl hn|(cases v<;>first|rfl|cases h)
def RC.ON{x v:Value}(h:RC w β (.lit x) v):v=x:=by cases h;rfl
def awa{cs ds:List AV}{r:Bool}(h:eqC cs ds=I r):∀ {us vs:List Value},RL (RC w β) cs us->RL (RC w β) ds vs->eqC (us.map .lit) (vs.map .lit)=I r/\cs=us.map .lit:=by
 induction cs generalizing ds r with
 | nil=>
  intro us vs h1 h2;cases ds with
  | nil=>rw[h1.of_nil,h2.of_nil];exact⟨h,rfl⟩
  | cons d ds=>simp[eqC]at h
 | cons c cs ih=>
  intro us vs h1 h2;cases ds with
  | nil=>cases c<;>simp[eqC]at h
  | cons d ds=>
   obtain⟨u,us,rfl,hu,hus⟩:=h1.CI;obtain⟨v,vs,rfl,hv,hvs⟩:=h2.CI;cases c<;>try (simp[eqC]at h;done)
   rename_i cv;cases d<;>try (cases cv<;>simp[eqC]at h;done)
   rename_i dv;obtain rfl:=hu.ON;obtain rfl:=hv.ON;cases u<;>try (simp[eqC]at h;done)
   all_goals cases v<;>try (simp[eqC]at h;done)
   case int.int=>
    simp only[eqC]at h;split at h
    .rename_i hk;cases hr:eqC cs ds with
     | none=>rw[hr]at h;cases h
     | some r'=>
      rw[hr]at h;obtain⟨i1,i2⟩:=ih hr hus hvs;refine⟨?_,by simp[i2]⟩;simp only[Db,eqC,hk,i1];exact h
    .cases h
   case bool.bool=>
    simp only[eqC]at h;cases hr:eqC cs ds with
    | none=>rw[hr]at h;cases h
    | some r'=>
     rw[hr]at h;obtain⟨i1,i2⟩:=ih hr hus hvs;refine⟨?_,by simp[i2]⟩;simp only[Db,eqC,i1];exact h
   case string.string=>
    simp only[eqC]at h;cases hr:eqC cs ds with
    | none=>rw[hr]at h;cases h
    | some r'=>
     rw[hr]at h;obtain⟨i1,i2⟩:=ih hr hus hvs;refine⟨?_,by simp[i2]⟩;simp only[Db,eqC,i1];exact h
def qJ{t:TypeId}{us:List Value}{n:Nat}{u:Value}(hu:us[n]? =I u)(ha:Lm P t=I A3):(part t us.toArray n).run P w= .ok u w:=by
 unfold part;simp[Tx ha,hu]
def aIh(d:Nat):∀(fs:List Field) (n:Nat) (us vs us' vs':List Value) (r:Bool),cb P n fs (us'.map .lit)=U->fs.length=us'.length->us=us.take n++us'->n<=us.length->vs=vs.take n++vs'->n<=vs.length->
  eqC (us'.map .lit) (vs'.map .lit)=I r->(Us (d+1) us.toArray vs.toArray fs).run P w= .ok r w
 | [],n,us,vs,us',vs',r,_,hl,_,_,_,_,h=>by
  obtain rfl:us'=[]:=E7 (by simpa using hl.symm);cases vs' with
  | nil=>simp[eqC]at h;subst h;simp[Us]
  | cons v vs'=>simp[eqC]at h
 | f::fs,n,us,vs,us',vs',r,hf,hl,hu,hn,hv,hn',h=>by
  cases us' with
  | nil=>simp at hl
  | cons u us'=>
  cases vs' with
  | nil=>cases u<;>simp[eqC]at h
  | cons v vs'=>
  simp only[Db,cb,AG,C1]at hf;obtain⟨⟨⟨hk,ho⟩,Ks⟩,hf⟩:=hf;have ho:=Bq ho;have hu1:us[n]? =I u:=by
   rw[hu,Fo (by simp;omega)];simp[S3 hn]
  have hv1:vs[n]? =I v:=by
   rw[hv,Fo (by simp;omega)];simp[S3 hn']
  have hlu:n<us.length:=(BP.1 hu1).1;have hlv:n<vs.length:=(BP.1 hv1).1;have hu2:us=us.take (n+1)++us':=by
   rw[JC,hu1];simp only[Option.toList_some,C9,aFE];exact hu
  have hv2:vs=vs.take (n+1)++vs':=by
   rw[JC,hv1];simp only[Option.toList_some,C9,aFE];exact hv
  have sJ:¬f.name= "_" :=by simpa using Ks
  have amM:=λr h=>aIh d fs (n+1) us vs us' vs' r hf (by simpa using hl) hu2 hlu hv2 hlv h;have fin:∀(q r':Bool),Lm P f.type=I A3->(Op.equalIn (d+1) f.type u v).run P w= .ok q w->eqC (us'.map .lit) (vs'.map .lit)=I r'->r=(q&&r')->
    (Us (d+1) us.toArray vs.toArray<|f::fs).run P w= .ok r w:=by
   intro q r' ha h1 h2 h3;simp only[Us,ne_eq,sJ,not_false_eq_true,A5,ho,Ex,qJ hu1 ha,qJ hv1 ha,FH,h1];cases q with
   | false=>simp[h3]
   | true=>simpa[h3] using amM r' h2
  have ag:∀ {ty},P.underlying f.type=I ty->(match ty with|.bool=>True|.int _=>True|.string=>True|_=>False)->Lm P f.type=I A3:=by
   intro ty h1 h2;unfold Lm;rw[h1];cases ty<;>first|rfl|exact h2.elim
  have op:∀(q r':Bool),eqC (us'.map .lit) (vs'.map .lit)=I r'->r=(q&&r')->(∀ty,P.underlying f.type=I ty->(match ty with|.bool=>True|.int _=>True|.string=>True|_=>False)->(Op.equalIn (d+1) f.type u v).run P w= .ok q w)->
    (∃ty,P.underlying f.type=I ty/\(match ty with|.bool=>True|.int _=>True|.string=>True|_=>False))->(Us (d+1) us.toArray vs.toArray<|f::fs).run P w= .ok r w:=by
   rintro q r' h1 h2 h3 ⟨ty,h4,h5⟩;exact fin q r' (ag h4 h5) (h3 ty h4 h5) h1 h2
  cases u<;>try (simp[eqC]at h;done)
  all_goals cases v<;>try (simp[eqC]at h;done)
  case int.int k a k' c=>
   simp only[Db,eqC]at h;split at h
   .rename_i hkk;obtain rfl:k=k':=by simpa using hkk
    cases hr:eqC (us'.map .lit) (vs'.map .lit) with
    | none=>rw[hr]at h;cases h
    | some r'=>
     rw[hr]at h;simp only[A9,Bz]at h;split at hk<;>try (rename_i e;cases e;done)
     .rename_i k2 _ _ hh _;refine fin (a == c) r' (ag hh trivial) (run_equalIn_int w d f.type k k2 a c hh) hr ?_;rw[← h];by_cases e:a=c<;>simp[e]
     .cases hk
   .cases h
  case bool.bool a c=>
   simp only[Db,eqC]at h;cases hr:eqC (us'.map .lit) (vs'.map .lit) with
   | none=>rw[hr]at h;cases h
   | some r'=>
    rw[hr]at h;simp only[A9,Bz]at h;split at hk<;>try (rename_i e;cases e;done)
    .rename_i hh _;refine fin (a == c) r' (ag hh trivial) (run_equalIn_bool' w d f.type a c hh) hr ?_;rw[← h];by_cases e:a=c<;>simp[e]
    .cases hk
  case string.string a c=>
   simp only[Db,eqC]at h;cases hr:eqC (us'.map .lit) (vs'.map .lit) with
   | none=>rw[hr]at h;cases h
   | some r'=>
    rw[hr]at h;simp only[A9,Bz]at h;split at hk<;>try (rename_i e;cases e;done)
    .rename_i hh _;refine fin (a.toList == c.toList) r' (ag hh trivial) (run_equalIn_string w d f.type a c hh) hr ?_;rw[← h,nB]
    .cases hk
def asS(hη:∀x,RX w β tm (ρ x)<|η x)(hH:Hs B β H w){op:BinOp}{t:TypeId}{x y:Operand}{q:Bool}{v:AV}{os:List Ob}(h:Q3 P op t (ρ x) (ρ y)=I (q,v,os))(hq:q=U)
  {o:Oper}(ho:(execOp η o).run P w=((do eqGuard op t x y (η x) (η y);IZ op t (η x) (η y):Sem Value).run P w).andThen λu w=> .ok (.value u) w):Good B β H w b v os ((execOp η o).run P w):=by
 rw[ho];have hx:=hη x;have hy:=hη y;have fin:∀u,(eqGuard op t x y (η x)<|η y).run P w= .ok () w->(IZ op t (η x)<|η y).run P w= .ok u w->os=[]->R2 w β v u->
   Good B β H w b v os (((do eqGuard op t x y (η x) (η y);IZ op t (η x) (η y):Sem Value).run P w).andThen λu w=> .ok (.value u) w):=by
  intro u h1 h2 h3 h4;subst h3;refine Good.same hH (u:=u) ?_ h4;simp[h1,h2]
 generalize ρ x=c at h hx;generalize ρ y=c' at h hy;generalize η x=vx at hx fin;generalize η y=vy at hy fin;unfold Q3 at h;split at h
 .rename_i k a k' c;split at h
  .rename_i hk;obtain rfl:k=k':=by simpa using hk
   obtain rfl:=hx.lit;obtain rfl:=hy.lit;obtain⟨u,h1,h2,rfl⟩:=au8 (P:=P) (w:=w) h hq t;exact fin u (jn _ _ _ _ _ _ rfl (by simp)) h1 h2 rfl
  .cases h
 .obtain rfl:=hx.lit;obtain rfl:=hy.lit;obtain⟨u,h1,h2,rfl⟩:=au7 (P:=P) (w:=w) h hq t;exact fin u (jn _ _ _ _ _ _ rfl (by simp)) h1 h2 rfl
 .rename_i a c;obtain rfl:=hx.lit;obtain rfl:=hy.lit;split at h
  .rename_i hu;obtain⟨rfl,_,h3⟩:=DV h;refine fin (.bool<|A1<|a=c) (jn _ _ _ _ _ _ rfl (by simp)) ?_ h3 rfl;simp only[IZ,Ex,Op.equal,Op.maxDepth,run_equalIn_bool' w _ t a c hu,FH,G5];by_cases e:a=c<;>simp[e]
  .rename_i hu;obtain⟨rfl,_,h3⟩:=DV h;refine fin (.bool<|!decide (a=c)) (jn _ _ _ _ _ _ rfl (by simp)) ?_ h3 rfl;simp only[IZ,Ex,Op.equal,Op.maxDepth,run_equalIn_bool' w _ t a c hu,FH,G5];by_cases e:a=c<;>simp[e]
  .cases h
 .rename_i cs ds;obtain⟨us,rfl,hl⟩:=RX.agg hx;obtain⟨vs,rfl,hm⟩:=RX.agg hy;have key:∀r,rW P t cs=U->Al cs.length ds.length=U->eqC cs ds=I r->
    (Op.equalIn 10000 t (.agg us.toArray)<|.agg vs.toArray).run P w= .ok r w/\(∀op,(eqGuard op t x y (.agg us.toArray)<|.agg vs.toArray).run P w= .ok () w):=by
   intro r h1 h2 h3;unfold rW at h1;split at h1
   .rename_i fs hu;simp only[AG,C1]at h1;obtain⟨⟨⟨h4,h5⟩,h6⟩,h7⟩:=h1;have hfo:P.fieldsOf t=fs:=by simp[Program.fieldsOf,hu]
    obtain⟨e1,e2⟩:=awa h3 hl hm;subst e2;refine⟨?_,λop=>run_eqGuard_agg w op t x y _ _ h7⟩;rw[run_equalIn_struct w 9999 t _ _ (by rw[hfo];exact hu) h6,hfo];refine aIh 9998 fs.toList 0 us vs us vs r h4 ?_ (by simp) (by simp) (by simp) (by simp) e1;have:=Bq h5;simpa using this
   .cases h1
  split at h
  .rename_i r h1 h2 h3;obtain⟨rfl,_,h4⟩:=DV h;obtain⟨k1,k2⟩:=key r h1 h2 h3;refine fin (.bool r) (k2 _) ?_ h4 rfl;rw[run_eql_struct,k1];rfl
  .rename_i r h1 h2 h3;obtain⟨rfl,_,h4⟩:=DV h;obtain⟨k1,k2⟩:=key r h1 h2 h3;refine fin (.bool<|!r) (k2 _) ?_ h4 rfl;rw[run_neq_struct,k1];rfl
  .cases h
 .cases h
def asj(hη:∀x,RX w β tm (ρ x)<|η x)(hH:Hs B β H w){op:UnOp}{x:Operand}{q:Bool}{v:AV}{os:List Ob}(h:unA op (ρ x)=I (q,v,os)):
  Good B β H w b v os (((Op.unary op<|η x).run P w).andThen λu w=> .ok (.value u) w):=by
 have hx:=hη x;generalize ρ x=c at h hx;unfold unA at h;split at h
 .obtain⟨rfl,_,rfl⟩:=DV h;rw[hx.lit];exact Good.same hH (u:= .bool _) (by simp[Op.unary]) rfl
 .obtain⟨rfl,_,rfl⟩:=DV h;rw[hx.lit];exact Good.same hH (u:= .int _ _) (by simp[Op.unary,Op.intArith]) rfl
 .cases h
end
end Go.VS
end
