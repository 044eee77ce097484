/- FnRiverKept: What was let go of, or has come, is not taken in again. The law answers true at every argument that the statement lets in; no condition beyond the statement's own. -/
import Derived.Test.YtnbfoldcjgdomaaGreatDoorCards
import Derived.Test.YtnbfoldcjgdomaaGreatDoorTie
import Derived.ProofKit
import Derived.OpenShut
import Derived.LaidMore
import Derived.Lay
import Derived.SevenTiedAt
import Derived.Stop.Joined
import Derived.ChangeOld
import Derived.SizedLaws
import Derived.Carry
import Derived.Test.YtnbfoldcjgdomaaGreatDoorQKeptA
set_option linter.all false
open Option renaming some->I,none->G
open Bool renaming true->Y,false->A0
noncomputable section
namespace Go.Proofs.YtnbfoldcjgdomaaGreatDoor.fnRiverKept
open Go.ChangeShapes Go.WideShapes Go.ChangeAt Go.RowKit Go.VS
theorem own:ownKnob Tryz.prog.godebug=G:=by kernel_rfl
theorem pB:laidOutB Tryz.prog=Y:=by kernel_rfl
theorem oh{xs:List Int}(h:RV (.fz .u8) xs):BOk xs:=by
 intro n hn;have h1:(Go.Lit.int .u8 n).wf=Y:=h.2 n hn;exact bounds_u8 h1
abbrev laid:=Rows.fnRiverKeptRow.laid
theorem G2(x:LT (.fz .u8))(hw:RV (.fz .u8) x):VV (x,())=I ((Y,()),()):=ayn<|oh hw
set_option maxRecDepth 100000 in
theorem UP (os:Os) (started:os.Started) (H:Type) (enc:TypeId×Value->H):
  ReturnsInHanded {} Tryz.checked os 4 .any (λw args=>(Rows.fnRiverKeptSpec.pre enc Tryz.prog Tryz.f4 Rows.fnRiverKeptRow.domain A0 w args/\laidMetH Tryz.prog laid w)/\sizedMet enc Tryz.prog Tryz.f4 (Go.OpenSpec.ofChange Rows.fnRiverKeptSpec) A0 w args)
   (Rows.fnRiverKeptSpec.post enc Tryz.prog Tryz.f4 A0 Y A0 A0):=by
 refine kq (C:=Tryz.checked) (X:=λw _=>laidMetH Tryz.prog laid w) (λ_ _ _ hh h=>h.of_heap hh) own started aIn Tryz.func4
  (Go.ChangeSpec.witness_shaped (enc:=enc) (C:=Tryz.checked) (os:=os) (X:=λw _=>laidMetH Tryz.prog laid w) A0 (Go.World.laidAll Tryz.prog os laid) #[.slice G 0 0] 8 (Go.World.laidAll_os _ _ _)
   (Go.World.shaped_of_ZipB aIn aIn) aIn aIn aIn
   (by rw[Go.MakeChecks.laidMetH_plain _ _ _ aIn];exact laidMet_laidAll _ aIn aIn)) ?_
 intro W args b0 ds gs before hsh Ux hW hL;have Hv:∀(j:Nat) t v,Tryz.f4.params[j]? =I t->args[j]? =I v->Go.Value.okWide Tryz.prog W .any b0 t v:=Ux;have hW':=hW;obtain⟨p,q,hA0,hV,rfl,_,_⟩:=hW;have hA:Go.DataW.TrodAll enc Tryz.prog W 0 (λ_=>Y) Y Tryz.f4.params.toList args.toList ds p:=hA0;rw[Tryz.params4]at hA Hv;obtain⟨v0,vs0,d0,ds0,p0,q0,Hx,rfl,rfl,h0,r0⟩:=trodAll_cons hA;obtain⟨rfl,rfl,rfl⟩:=trodAll_nil r0;obtain rfl:args= #[v0]:=by cases args;simp_all
 obtain⟨rfl,rfl⟩:=trodVars_none hV;have lt0:∀x∈p0,x.block<W.heap.size:=by obtain⟨m,hm⟩:=h0;exact Go.DataW.trod_lt m _ _ _ hm
 obtain⟨x,hx,HV⟩:=lT (h:= .fz .u8) (c:= .sl .u8) rfl aIn Tryz.underlying22 (Hv 0 22 v0 rfl rfl) h0;have Nh:=ly (f:=4) (ps:=[.fz .u8]) (g:=VV) adC.1 (q:=()) (G2 x hx) (w:=W) (args:=[v0]) (λM e hM=>⟨v0,[],[],[],rfl,rfl,HV M e hM,rfl,rfl⟩) (lG hsh aIn hL aIn λ_=>⟨by kernel_rfl,by kernel_rfl⟩);refine Nh.mono λe W' ⟨he,bel⟩=> ?_;subst he;exact⟨_,rfl,_,_,_,[],_,[],hW',trodAll_mk1<|shut_bool Tryz.underlying4 _,(trodAll_cons_mk (Below.trod pB aIn (of_decide_eq_true aIn) h0 bel lt0) trodAll_mk0),rfl,bel.frame _,λh=>by cases h⟩
set_option maxHeartbeats 8000000 in
theorem closed:joinedFacts Tryz.prog 4 Tryz.f4 Rows.fnRiverKeptSpec Rows.fnRiverKeptRow=Y:=by
 unfold joinedFacts;simp only[Bool.and_eq_true];repeat' apply And.intro
 all_goals (as_aux_lemma=>kernel_rfl)
theorem Hm:Rows.FnRiverKeptSaid:=
 Go.OpenClaim.holds_of_wide 4 Tryz.f4 rfl rfl rfl rfl rfl rfl rfl ⟨rfl,rfl,rfl,rfl,rfl⟩ rfl rfl rfl rfl rfl (by as_aux_lemma=>kernel_rfl) Tryz.func4 closed
  (of_decide_eq_true<|by as_aux_lemma=>kernel_rfl) (by unfold Go.Func.isWrapper;first|(rw[if_pos<|by decide+kernel];kernel_rfl)|(rw[if_neg<|by decide+kernel];exact⟨rfl,rfl⟩))
  (λos started H enc _=>UP os started H enc)
theorem card_holds:Rows.FnRiverKeptCardSaid:=
 Go.Claim7.holds_tied_plain_at .later [] [.data,.data,.data,.data,.pinned] Y (Y,"b84cfd3a67341ec7f0210f826323fd930683baf8cd0947def78103cb9914f3c9") A0 Hm (λ_ h=>by cases h) (by as_aux_lemma=>kernel_rfl) (λ_ h=>by cases h) fnRiverKept_row_tie rfl ⟨rfl,rfl⟩ (by as_aux_lemma=>kernel_rfl) rfl
  (λf fn hf hfn=>by
   obtain rfl:f=4:=Option.some.inj ((show Tryz.prog.funcNamed "loop.example/bargeman/laws.FnRiverKept" =I 4 by as_aux_lemma=>kernel_rfl).symm.trans hf) |>.symm;obtain rfl:fn=Tryz.f4:=(Option.some.inj<|Tryz.func4.symm.trans hfn).symm;exact⟨by as_aux_lemma=>kernel_rfl,λj t ht=>by
    rw[Tryz.params4]at ht;have hm:=Array.mem_of_getElem? ht;have hm':t∈[22]:=by simpa using hm
    have Fc:([22].all λu=> !Tryz.pinned.checked.prog.wantsStandIn u)=Y:=by as_aux_lemma=>kernel_rfl
    simpa using List.all_eq_true.1 Fc t hm'⟩)
  (by as_aux_lemma=>kernel_rfl)
#print axioms card_holds
end Go.Proofs.YtnbfoldcjgdomaaGreatDoor.fnRiverKept
end
