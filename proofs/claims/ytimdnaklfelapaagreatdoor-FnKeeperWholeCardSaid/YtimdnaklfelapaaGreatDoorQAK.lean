/- An evaluator of the program's own code with its soundness, the printed texts of the functions, and plain laws of them (part 11). -/
import Derived.Below
import Derived.Test.YtimdnaklfelapaaGreatDoorQAJ
set_option linter.unusedVariables false
set_option linter.unusedSimpArgs false
set_option linter.defProp false
open Go.Calls renaming mono→atB
open Go.Lit renaming int→auF
noncomputable section
namespace Go.VS
open Go
def aiF:Sh→Option CT
 | .int k=>some (.int k)
 | .bool=>some .bool
 | .str=>some .str
 | .fz k=>some (.sl k)
 | _=>none
def aeh:(h:Sh)→LT h→Prop
 | .int k,n=>(auF k n).wf=true
 | .bool,_=>True
 | .str,s=>wfS s
 | .fz k,xs=>wfL (wfK k) xs
 | _,_=>False
section
variable {P:Program} {w:World}
def ac5{h:Sh}{t:CT}{v:Value}(hs:aiF h=some t)(hf:ajp w t v): ∃ x:LT h,aeh h x∧ ∀ (M:Nat→Prop) (e:Nat→Value),(∀ b,¬ M b)→Rel P w M e h x v []:=by
 cases h<;>simp only[aiF]at hs<;>first | (cases hs;done) | skip
 case int k=>
  cases hs;obtain⟨n,rfl,hw⟩:=hf;exact⟨n,hw,fun M e _=>⟨rfl,rfl⟩⟩
 case bool=>
  cases hs;obtain⟨n,rfl⟩:=hf;exact⟨n,trivial,fun M e _=>⟨rfl,rfl⟩⟩
 case str=>
  cases hs;obtain⟨n,rfl,hw⟩:=hf;exact⟨n,hw,fun M e _=>⟨rfl,rfl⟩⟩
 case fz k=>
  cases hs;obtain⟨xs,hw,hr⟩:=hf;exact⟨xs,hw,fun M e hM=>⟨fun β hβ=>hr β fun b hb=>hM b (hβ b hb),rfl⟩⟩
section
variable {H:Type} {akJ:TypeId×Value→H} {base:Nat} {spare:Nat→Bool} {held:Bool}
end
def ac7{f:FuncId}{ps:List Sh}{g:LTs ps→Option (LTs [.bool]×LTs (aT ps))}(hS:tu P f ⟨ps,[.bool],g⟩){x:LTs ps}{q:LTs (aT ps)}(hx:g x=some ((true,()),q)){args:List Value}
  (alG: ∀ (M:Nat→Prop) (e:Nat→Value),(∀ b,¬ M b)→akn P w M e ps x args [])(hgl:Zr P w (fun _=>False)):Calls P f args.toArray w fun e w'=>e= .returned (.bool true)∧Go.RowKit.Below w.heap.size w w':=by
 refine atB (hS.2 x _ hx w (fun _=>False) args [] (alG _ _ (fun b h=>by simp[bC]at h)) (by simp[bC]) (fun b h=>by simp[bC]at h) (fun b h=>h.elim) (by simpa[bC] using hgl)) ?_;rintro en w' ⟨v,rfl,hr⟩;obtain⟨vs,os1,os2,rfl,h1,_⟩:=hr.ex;obtain⟨u,us,o1,o2,rfl,_,h2,h3⟩:=h1;obtain⟨rfl,_⟩:=h3;obtain⟨rfl,_⟩:=h2;exact⟨rfl,hr.wos,hr.tape,hr.output,hr.size,fun b hb=>hr.block b hb (by simp[bC])⟩
end
end Go.VS
end
