/- Part 11. -/
import Derived.Test.YtgjljlpdfceilaaGreatDoorQAJ
open Bool renaming true->U
open Go.Calls renaming mono->Ms
open Go.Lit renaming int->Nu
open Option renaming none->A0,some->I
set_option linter.all false
noncomputable section
namespace Go.VS
open Go
def sA:Sh->Option CT
 | .int k=>I (.int k)
 | .bool=>I .bool
 | .str=>I .str
 | .fz k=>I (.sl k)
 | _=>A0
def Lj:(h:Sh)->LT h->Prop
 | .int k,n=>(Nu k n).wf=U
 | .bool,_=>True
 | .str,s=>wfS s
 | .fz k,xs=>wfL (wfK k) xs
 | _,_=>False
section
variable {P:Program} {w:World}
def atN{h:Sh}{t:CT}{v:Value}(hs:sA h=I t)(hf:sC w t v):∃x:LT h,Lj h x/\ ∀(M:Nat->Prop) (e:Nat->Value),(∀b,¬M b)->Rel P w M e h x v []:=by
 cases h<;>simp only[sA]at hs<;>first|(cases hs;done)|skip
 case int k=>
  cases hs;obtain⟨n,rfl,hw⟩:=hf;exact⟨n,hw,λM e _=>⟨rfl,rfl⟩⟩
 case bool=>
  cases hs;obtain⟨n,rfl⟩:=hf;exact⟨n,trivial,λM e _=>⟨rfl,rfl⟩⟩
 case str=>
  cases hs;obtain⟨n,rfl,hw⟩:=hf;exact⟨n,hw,λM e _=>⟨rfl,rfl⟩⟩
 case fz k=>
  cases hs;obtain⟨xs,hw,hr⟩:=hf;exact⟨xs,hw,λM e hM=>⟨λβ hβ=>hr β λb hb=>hM b<|hβ b hb,rfl⟩⟩
def Qq{f:FuncId}{ps:List Sh}{g:LTs ps->Option (LTs [.bool]×LTs (B6 ps))}(hS:H5 P f ⟨ps,[.bool],g⟩){x:LTs ps}{q:LTs (B6 ps)}(hx:g x=I ((U,()),q)){args:List Value}
  (FX:∀(M:Nat->Prop) (e:Nat->Value),(∀b,¬M b)->Cp P w M e ps x args [])(hgl:O3 P w (λ_=>False)):Calls P f args.toArray w λe w'=>e= .returned (.bool U)/\Go.RowKit.Below w.heap.size w w':=by
 refine Ms (hS.2 x _ hx w (λ_=>False) args [] (FX _ _ λb h=>by simp[B3]at h) (by simp[B3]) (λb h=>by simp[B3]at h) (λb h=>h.elim)<|by simpa[B3] using hgl) ?_;rintro en w' ⟨v,rfl,hr⟩;obtain⟨vs,os1,os2,rfl,h1,_⟩:=hr.ex;obtain⟨u,us,o1,o2,rfl,_,h2,h3⟩:=h1;obtain⟨rfl,_⟩:=h3;obtain⟨rfl,_⟩:=h2;exact⟨rfl,hr.wos,hr.tape,hr.output,hr.size,λb hb=>hr.block b hb<|by simp[B3]⟩
end
end Go.VS
end
