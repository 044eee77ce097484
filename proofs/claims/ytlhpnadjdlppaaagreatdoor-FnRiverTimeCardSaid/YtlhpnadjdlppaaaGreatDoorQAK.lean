/- Part 11. -/
import Derived.Test.YtlhpnadjdlppaaaGreatDoorQAJ
open Bool renaming true->A1
open Go.Calls renaming mono->MX
open Go.Lit renaming int->N3
open Option renaming none->U,some->I
set_option linter.all false
noncomputable section
namespace Go.VS
open Go
def eZ:Sh->Option CT
 | .int k=>I (.int k)
 | .bool=>I .bool
 | .str=>I .str
 | .fz k=>I (.sl k)
 | _=>U
def Io:(h:Sh)->LT h->Prop
 | .int k,n=>(N3 k n).wf=A1
 | .bool,_=>True
 | .str,s=>wfS s
 | .fz k,xs=>wfL (wfK k) xs
 | _,_=>False
section
variable {P:Program} {w:World}
def apd{h:Sh}{t:CT}{v:Value}(hs:eZ h=I t)(hf:nW w t v):∃x:LT h,Io h x/\ ∀(M:Nat->Prop) (e:Nat->Value),(∀b,¬M b)->Rel P w M e h x v []:=by
 cases h<;>simp only[eZ]at hs<;>first|(cases hs;done)|skip
 case int k=>
  cases hs;obtain⟨n,rfl,hw⟩:=hf;exact⟨n,hw,λM e _=>⟨rfl,rfl⟩⟩
 case bool=>
  cases hs;obtain⟨n,rfl⟩:=hf;exact⟨n,trivial,λM e _=>⟨rfl,rfl⟩⟩
 case str=>
  cases hs;obtain⟨n,rfl,hw⟩:=hf;exact⟨n,hw,λM e _=>⟨rfl,rfl⟩⟩
 case fz k=>
  cases hs;obtain⟨xs,hw,hr⟩:=hf;exact⟨xs,hw,λM e hM=>⟨λβ hβ=>hr β λb hb=>hM b<|hβ b hb,rfl⟩⟩
def Ms{f:FuncId}{ps:List Sh}{g:LTs ps->Option (LTs [.bool]×LTs (B1 ps))}(hS:Gs P f ⟨ps,[.bool],g⟩){x:LTs ps}{q:LTs (B1 ps)}(hx:g x=I ((A1,()),q)){args:List Value}
  (E0:∀(M:Nat->Prop) (e:Nat->Value),(∀b,¬M b)->CO P w M e ps x args [])(hgl:OF P w (λ_=>False)):Calls P f args.toArray w λe w'=>e= .returned (.bool A1)/\Go.RowKit.Below w.heap.size w w':=by
 refine MX (hS.2 x _ hx w (λ_=>False) args [] (E0 _ _ λb h=>by simp[Ax]at h) (by simp[Ax]) (λb h=>by simp[Ax]at h) (λb h=>h.elim)<|by simpa[Ax] using hgl) ?_;rintro en w' ⟨v,rfl,hr⟩;obtain⟨vs,os1,os2,rfl,h1,_⟩:=hr.ex;obtain⟨u,us,o1,o2,rfl,_,h2,h3⟩:=h1;obtain⟨rfl,_⟩:=h3;obtain⟨rfl,_⟩:=h2;exact⟨rfl,hr.wos,hr.tape,hr.output,hr.size,λb hb=>hr.block b hb<|by simp[Ax]⟩
end
end Go.VS
end
