/- FnRiverForce: To force changes nothing but that. The law answers true at every argument that the statement lets in; no condition beyond the statement's own. -/
import Derived.Test.YtadnafhbeojhoaaGreatDoorCards
import Derived.Test.YtadnafhbeojhoaaGreatDoorTie
import Derived.ProofKit
import Derived.OpenShut
import Derived.LaidMore
import Derived.Lay
import Derived.SevenTiedAt
import Derived.Stop.Joined
import Derived.ChangeOld
import Derived.SizedLaws
import Derived.Carry
import Derived.Test.YtadnafhbeojhoaaGreatDoorQForceA
set_option linter.all false
open Option renaming some->I,none->U
open Bool renaming true->A1,false->A3
open Array renaming mem_of_getElem?->PD
open Bool renaming and_eq_true->AI
open Go.ChangeSpec renaming witness_shaped->Of
open Go.Claim7 renaming holds_tied_plain_at->PA
open Go.DataW renaming TrodAll->P5,trod_lt->NP
open Go.Func renaming isWrapper->Pm
open Go.MakeChecks renaming laidMetH_plain->MN
open Go.OpenClaim renaming holds_of_wide->Oh
open Go.OpenSpec renaming ofChange->Kl
open Go.Value renaming okWide->Ky
open Go.World renaming laidAll->OU,laidAll_os->Oi,shaped_of_ZipB->P3
open List renaming all_eq_true->Cr
open Option.some renaming inj->EI
open Go.Lit renaming int->N7
noncomputable section
namespace Go.Proofs.YtadnafhbeojhoaaGreatDoor.fnRiverForce
open Go.ChangeShapes Go.WideShapes Go.ChangeAt Go.RowKit Go.VS
set_option linter.unusedVariables false
theorem own:ownKnob Tryz.prog.godebug=U:=by kernel_rfl
theorem Vt:laidOutB Tryz.prog=A1:=by kernel_rfl
theorem Vs{xs:List Int}(h:Np (.fz .u8) xs):BOk xs:=by
 intro n hn;have h1:(N7 .u8 n).wf=A1:=h.2 n hn;exact bounds_u8 h1
abbrev laid:=Rows.fnRiverForceRow.laid
theorem F5(x:LT (.fz .u8))(hw:Np (.fz .u8) x):Vk (x,())=I ((A1,()),()):=aiN<|Vs hw
set_option maxRecDepth 100000 in
theorem OH (os:Os) (started:os.Started) (H:Type) (enc:TypeId×Value->H):
  ReturnsInHanded {} Tryz.checked os 6 .any (λw args=>(Rows.fnRiverForceSpec.pre enc Tryz.prog Tryz.f6 Rows.fnRiverForceRow.domain A3 w args/\laidMetH Tryz.prog laid w)/\sizedMet enc Tryz.prog Tryz.f6 (Kl Rows.fnRiverForceSpec) A3 w args)
   (Rows.fnRiverForceSpec.post enc Tryz.prog Tryz.f6 A3 A1 A3 A3):=by
 refine fF (C:=Tryz.checked) (X:=λw _=>laidMetH Tryz.prog laid w) (λ_ _ _ hh h=>h.of_heap hh) own started (by kernel_rfl) Tryz.func6
  (Of (enc:=enc) (C:=Tryz.checked) (os:=os) (X:=λw _=>laidMetH Tryz.prog laid w) A3 (OU Tryz.prog os laid) #[.slice U 0 0] 8 (Oi _ _ _)
   (P3 (by kernel_rfl)<|by kernel_rfl) (by kernel_rfl) (by kernel_rfl) (by kernel_rfl)
   (by rw[MN _ _ _<|by kernel_rfl];exact laidMet_laidAll _ (by kernel_rfl)<|by kernel_rfl)) ?_
 intro W args b0 ds gs before hsh PG hW hL;have GB:∀(j:Nat) t v,Tryz.f6.params[j]? =I t->args[j]? =I v->Ky Tryz.prog W .any b0 t v:=PG;have hW':=hW;obtain⟨p,q,hA0,hV,rfl,_,_⟩:=hW;have hA:P5 enc Tryz.prog W 0 (λ_=>A1) A1 Tryz.f6.params.toList args.toList ds p:=hA0;rw[Tryz.params6]at hA GB;obtain⟨v0,vs0,d0,ds0,p0,q0,HA,rfl,rfl,h0,r0⟩:=trodAll_cons hA;obtain⟨rfl,rfl,rfl⟩:=trodAll_nil r0;obtain rfl:args= #[v0]:=by cases args;simp_all
 obtain⟨rfl,rfl⟩:=trodVars_none hV;have lt0:∀x∈p0,x.block<W.heap.size:=by obtain⟨m,hm⟩:=h0;exact NP m _ _ _ hm
 obtain⟨x,hx,GO⟩:=W5 (h:= .fz .u8) (c:= .sl .u8) rfl (by kernel_rfl) Tryz.underlying22 (GB 0 22 v0 rfl rfl) h0;have Kr:=Xy (f:=6) (ps:=[.fz .u8]) (g:=Vk) alS.1 (q:=()) (F5 x hx) (w:=W) (args:=[v0]) (λM e hM=>⟨v0,[],[],[],rfl,rfl,GO M e hM,rfl,rfl⟩) (Yu hsh (by kernel_rfl) hL (by kernel_rfl) λ_=>⟨by kernel_rfl,by kernel_rfl⟩);refine Kr.mono λe W' ⟨he,bel⟩=> ?_;subst he;exact⟨_,rfl,_,_,_,[],_,[],hW',trodAll_mk1<|shut_bool Tryz.underlying4 _,(trodAll_cons_mk (Below.trod Vt (by kernel_rfl) (of_decide_eq_true<|by kernel_rfl) h0 bel lt0) trodAll_mk0),rfl,bel.frame _,λh=>by cases h⟩
end Go.Proofs.YtadnafhbeojhoaaGreatDoor.fnRiverForce
namespace Go.Proofs.YtadnafhbeojhoaaGreatDoor.fnRiverForce
open Go.ChangeShapes Go.WideShapes Go.ChangeAt Go.RowKit
set_option linter.unusedVariables false
set_option maxHeartbeats 8000000 in
set_option maxHeartbeats 8000000 in
theorem closed:joinedFacts Tryz.prog 6 Tryz.f6 Rows.fnRiverForceSpec Rows.fnRiverForceRow=A1:=by
 unfold joinedFacts;simp only[AI];refine⟨⟨⟨⟨⟨⟨⟨⟨⟨⟨⟨⟨⟨⟨⟨⟨⟨⟨⟨⟨⟨⟨⟨⟨⟨⟨⟨⟨⟨⟨⟨?_, ?_⟩, ?_⟩, ?_⟩, ?_⟩, ?_⟩, ?_⟩, ?_⟩, ?_⟩, ?_⟩, ?_⟩, ?_⟩, ?_⟩, ?_⟩, ?_⟩, ?_⟩, ?_⟩, ?_⟩, ?_⟩, ?_⟩, ?_⟩, ?_⟩, ?_⟩, ?_⟩, ?_⟩, ?_⟩, ?_⟩, ?_⟩, ?_⟩, ?_⟩, ?_⟩, ?_⟩
 all_goals (as_aux_lemma=>kernel_rfl)
end Go.Proofs.YtadnafhbeojhoaaGreatDoor.fnRiverForce
namespace Go.Proofs.YtadnafhbeojhoaaGreatDoor.fnRiverForce
open Go.ChangeShapes Go.WideShapes Go.ChangeAt Go.RowKit
set_option linter.unusedVariables false
theorem Oj:Rows.FnRiverForceSaid:=
 Oh 6 Tryz.f6 rfl rfl rfl rfl rfl rfl rfl ⟨rfl,rfl,rfl,rfl,rfl⟩ rfl rfl rfl rfl rfl (by as_aux_lemma=>kernel_rfl) Tryz.func6 closed
  (of_decide_eq_true<|by as_aux_lemma=>kernel_rfl) (by unfold Pm;first|(rw[if_pos<|by decide+kernel];kernel_rfl)|(rw[if_neg<|by decide+kernel];exact⟨rfl,rfl⟩))
  (λos started H enc _=>OH os started H enc)
theorem card_holds:Rows.FnRiverForceCardSaid:=
 PA .later [] [.data,.data,.data,.data,.pinned] A1 (A1,"660365104fd3fe31d6b850ae0492d958a6342bbfa54f215adc644b9932719a27") A3 Oj (λ_ h=>by cases h) (by as_aux_lemma=>kernel_rfl) (λ_ h=>by cases h) fnRiverForce_row_tie rfl ⟨rfl,rfl⟩ (by as_aux_lemma=>kernel_rfl) rfl
  (λf fn hf hfn=>by
   obtain rfl:f=6:=EI ((show Tryz.prog.funcNamed "loop.example/bargeman/laws.FnRiverForce" =I 6 by as_aux_lemma=>kernel_rfl).symm.trans hf) |>.symm;obtain rfl:fn=Tryz.f6:=(EI<|Tryz.func6.symm.trans hfn).symm;exact⟨by as_aux_lemma=>kernel_rfl,λj t ht=>by
    rw[Tryz.params6]at ht;have hm:=PD ht;have hm':t∈[22]:=by simpa using hm
    have F3:([22].all λu=> !Tryz.pinned.checked.prog.wantsStandIn u)=A1:=by as_aux_lemma=>kernel_rfl
    simpa using Cr.1 F3 t hm'⟩)
  (by as_aux_lemma=>kernel_rfl)
#print axioms card_holds
end Go.Proofs.YtadnafhbeojhoaaGreatDoor.fnRiverForce
end
