/- Part 11. -/
import Derived.Test.YtplahhbealfpcaaGreatDoorQAJ
open Bool renaming true->A0
open Go.Calls renaming mono->M9
open Go.Lit renaming int->NO
open Option renaming none->U,some->I
set_option linter.all false
noncomputable section
namespace Go.VS
open Go
def my:Sh->Option CT
 | .int k=>I (.int k)
 | .bool=>I .bool
 | .str=>I .str
 | .fz k=>I (.sl k)
 | _=>U
def IZ:(h:Sh)->LT h->Prop
 | .int k,n=>(NO k n).wf=A0
 | .bool,_=>True
 | .str,s=>wfS s
 | .fz k,xs=>wfL (wfK k) xs
 | _,_=>False
section
variable {P:Program} {w:World}
def asj{h:Sh}{t:CT}{v:Value}(hs:my h=I t)(hf:nB w t v):∃x:LT h,IZ h x/\ ∀(M:Nat->Prop) (e:Nat->Value),(∀b,¬M b)->Rel P w M e h x v []:=by
 cases h<;>simp only[my]at hs<;>first|(cases hs;done)|skip
 case int k=>
  cases hs;obtain⟨n,rfl,hw⟩:=hf;exact⟨n,hw,λM e _=>⟨rfl,rfl⟩⟩
 case bool=>
  cases hs;obtain⟨n,rfl⟩:=hf;exact⟨n,trivial,λM e _=>⟨rfl,rfl⟩⟩
 case str=>
  cases hs;obtain⟨n,rfl,hw⟩:=hf;exact⟨n,hw,λM e _=>⟨rfl,rfl⟩⟩
 case fz k=>
  cases hs;obtain⟨xs,hw,hr⟩:=hf;exact⟨xs,hw,λM e hM=>⟨λβ hβ=>hr β λb hb=>hM b<|hβ b hb,rfl⟩⟩
def ON{f:FuncId}{ps:List Sh}{g:LTs ps->Option (LTs [.bool]×LTs (B1 ps))}(hS:Gs P f ⟨ps,[.bool],g⟩){x:LTs ps}{q:LTs (B1 ps)}(hx:g x=I ((A0,()),q)){args:List Value}
  (EB:∀(M:Nat->Prop) (e:Nat->Value),(∀b,¬M b)->CX P w M e ps x args [])(hgl:Na P w (λ_=>False)):Calls P f args.toArray w λe w'=>e= .returned (.bool A0)/\Go.RowKit.Below w.heap.size w w':=by
 refine M9 (hS.2 x _ hx w (λ_=>False) args [] (EB _ _ λb h=>by simp[Az]at h) (by simp[Az]) (λb h=>by simp[Az]at h) (λb h=>h.elim)<|by simpa[Az] using hgl) ?_;rintro en w' ⟨v,rfl,hr⟩;obtain⟨vs,os1,os2,rfl,h1,_⟩:=hr.ex;obtain⟨u,us,o1,o2,rfl,_,h2,h3⟩:=h1;obtain⟨rfl,_⟩:=h3;obtain⟨rfl,_⟩:=h2;exact⟨rfl,hr.wos,hr.tape,hr.output,hr.size,λb hb=>hr.block b hb<|by simp[Az]⟩
end
end Go.VS
end
