/- Part 11. -/
import Derived.Test.YtadnafhbeojhoaaGreatDoorQAJ
open Bool renaming true->A1
open Go.Calls renaming mono->Lp
open Go.Lit renaming int->N7
open Option renaming none->U,some->I
set_option linter.all false
noncomputable section
namespace Go.VS
open Go
def kh:Sh->Option CT
 | .int k=>I (.int k)
 | .bool=>I .bool
 | .str=>I .str
 | .fz k=>I (.sl k)
 | _=>U
def Np:(h:Sh)->LT h->Prop
 | .int k,n=>(N7 k n).wf=A1
 | .bool,_=>True
 | .str,s=>wfS s
 | .fz k,xs=>wfL (wfK k) xs
 | _,_=>False
section
variable {P:Program} {w:World}
def aq7{h:Sh}{t:CT}{v:Value}(hs:kh h=I t)(hf:iH w t v):∃x:LT h,Np h x/\ ∀(M:Nat->Prop) (e:Nat->Value),(∀b,¬M b)->Rel P w M e h x v []:=by
 cases h<;>simp only[kh]at hs<;>first|(cases hs;done)|skip
 case int k=>
  cases hs;obtain⟨n,rfl,hw⟩:=hf;exact⟨n,hw,λM e _=>⟨rfl,rfl⟩⟩
 case bool=>
  cases hs;obtain⟨n,rfl⟩:=hf;exact⟨n,trivial,λM e _=>⟨rfl,rfl⟩⟩
 case str=>
  cases hs;obtain⟨n,rfl,hw⟩:=hf;exact⟨n,hw,λM e _=>⟨rfl,rfl⟩⟩
 case fz k=>
  cases hs;obtain⟨xs,hw,hr⟩:=hf;exact⟨xs,hw,λM e hM=>⟨λβ hβ=>hr β λb hb=>hM b<|hβ b hb,rfl⟩⟩
def Xy{f:FuncId}{ps:List Sh}{g:LTs ps->Option (LTs [.bool]×LTs (B6 ps))}(hS:Gt P f ⟨ps,[.bool],g⟩){x:LTs ps}{q:LTs (B6 ps)}(hx:g x=I ((A1,()),q)){args:List Value}
  (GO:∀(M:Nat->Prop) (e:Nat->Value),(∀b,¬M b)->Cc P w M e ps x args [])(hgl:NB P w (λ_=>False)):Calls P f args.toArray w λe w'=>e= .returned (.bool A1)/\Go.RowKit.Below w.heap.size w w':=by
 refine Lp (hS.2 x _ hx w (λ_=>False) args [] (GO _ _ λb h=>by simp[Az]at h) (by simp[Az]) (λb h=>by simp[Az]at h) (λb h=>h.elim)<|by simpa[Az] using hgl) ?_;rintro en w' ⟨v,rfl,hr⟩;obtain⟨vs,os1,os2,rfl,h1,_⟩:=hr.ex;obtain⟨u,us,o1,o2,rfl,_,h2,h3⟩:=h1;obtain⟨rfl,_⟩:=h3;obtain⟨rfl,_⟩:=h2;exact⟨rfl,hr.wos,hr.tape,hr.output,hr.size,λb hb=>hr.block b hb<|by simp[Az]⟩
end
end Go.VS
end
