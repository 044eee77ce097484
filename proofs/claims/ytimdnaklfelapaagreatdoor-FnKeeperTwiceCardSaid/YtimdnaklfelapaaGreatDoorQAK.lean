/- Part 11. -/
import Derived.Test.YtimdnaklfelapaaGreatDoorQAJ
open Go.Calls renaming mono→ax1
open Go.Lit renaming int→ayX
set_option linter.unusedVariables false
set_option linter.unusedSimpArgs false
set_option linter.defProp false
noncomputable section
namespace Go.VS
open Go
def ami:Sh→Option CT
 | .int k=>some (.int k)
 | .bool=>some .bool
 | .str=>some .str
 | .fz k=>some (.sl k)
 | _=>none
def QZ:(h:Sh)→LT h→Prop
 | .int k,n=>(ayX k n).wf=true
 | .bool,_=>True
 | .str,s=>wfS s
 | .fz k,xs=>wfL (wfK k) xs
 | _,_=>False
section
variable {P:Program} {w:World}
def agF{h:Sh}{t:CT}{v:Value}(hs:ami h=some t)(hf:am2 w t v): ∃ x:LT h,QZ h x∧ ∀ (M:Nat→Prop) (e:Nat→Value),(∀ b,¬ M b)→Rel P w M e h x v []:=by
 cases h<;>simp only[ami]at hs<;>first | (cases hs;done) | skip
 case int k=>
  cases hs;obtain⟨n,rfl,hw⟩:=hf;exact⟨n,hw,fun M e _=>⟨rfl,rfl⟩⟩
 case bool=>
  cases hs;obtain⟨n,rfl⟩:=hf;exact⟨n,trivial,fun M e _=>⟨rfl,rfl⟩⟩
 case str=>
  cases hs;obtain⟨n,rfl,hw⟩:=hf;exact⟨n,hw,fun M e _=>⟨rfl,rfl⟩⟩
 case fz k=>
  cases hs;obtain⟨xs,hw,hr⟩:=hf;exact⟨xs,hw,fun M e hM=>⟨fun β hβ=>hr β fun b hb=>hM b (hβ b hb),rfl⟩⟩
def qJ{f:FuncId}{ps:List Sh}{g:LTs ps→Option (LTs [.bool]×LTs (bg ps))}(hS:we P f ⟨ps,[.bool],g⟩){x:LTs ps}{q:LTs (bg ps)}(hx:g x=some ((true,()),q)){args:List Value}
  (aor: ∀ (M:Nat→Prop) (e:Nat→Value),(∀ b,¬ M b)→an3 P w M e ps x args [])(hgl:ac2 P w (fun _=>False)):Calls P f args.toArray w fun e w'=>e= .returned (.bool true)∧Go.RowKit.Below w.heap.size w w':=by
 refine ax1 (hS.2 x _ hx w (fun _=>False) args [] (aor _ _ (fun b h=>by simp[bX]at h)) (by simp[bX]) (fun b h=>by simp[bX]at h) (fun b h=>h.elim) (by simpa[bX] using hgl)) ?_;rintro en w' ⟨v,rfl,hr⟩;obtain⟨vs,os1,os2,rfl,h1,_⟩:=hr.ex;obtain⟨u,us,o1,o2,rfl,_,h2,h3⟩:=h1;obtain⟨rfl,_⟩:=h3;obtain⟨rfl,_⟩:=h2;exact⟨rfl,hr.wos,hr.tape,hr.output,hr.size,fun b hb=>hr.block b hb (by simp[bX])⟩
end
end Go.VS
end
