/- FnRiverStay: When all is still nothing changes any more. The law answers true at every argument that the statement lets in; no condition beyond the statement's own. -/
import Derived.Test.YtcdeafiabojglaaGreatDoorCards
import Derived.Test.YtcdeafiabojglaaGreatDoorTie
import Derived.ProofKit
import Derived.OpenShut
import Derived.LaidMore
import Derived.Lay
import Derived.SevenTiedAt
import Derived.Stop.Joined
import Derived.ChangeOld
import Derived.SizedLaws
import Derived.Carry
import Derived.Test.YtcdeafiabojglaaGreatDoorQStayA
set_option linter.all false
open Option renaming some->I,none->G
open Bool renaming true->Y,false->A0
open Array renaming mem_of_getElem?->n8
open Bool renaming and_eq_true->AE
open Go.ChangeSpec renaming witness_shaped->mV
open Go.Claim7 renaming holds_tied_plain_at->mS
open Go.MakeChecks renaming laidMetH_plain->U4
open Go.OpenClaim renaming holds_of_wide->mM
open Go.OpenSpec renaming ofChange->R3
open Go.Value renaming okWide->Qt
open Go.World renaming shaped_of_ZipB->mW
open List renaming all_eq_true->DB
open Option.some renaming inj->E5
open Go.Lit renaming int->NU
noncomputable section
namespace Go.Proofs.YtcdeafiabojglaaGreatDoor.fnRiverStay
open Go.ChangeShapes Go.WideShapes Go.ChangeAt Go.RowKit Go.VS
theorem own:ownKnob Tryz.prog.godebug=G:=by kernel_rfl
theorem aaI:laidOutB Tryz.prog=Y:=by kernel_rfl
theorem aGD{xs:List Int}(h:US (.fz .u8) xs):BOk xs:=by
 intro n hn;have h1:(NU .u8 n).wf=Y:=h.2 n hn;exact bounds_u8 h1
abbrev laid:=Rows.fnRiverStayRow.laid
theorem Gc(x:LT (.fz .u8))(hw:US (.fz .u8) x):VK (x,())=I ((Y,()),()):=ayI<|aGD hw
set_option maxRecDepth 100000 in
theorem oN (os:Os) (started:os.Started) (H:Type) (enc:TypeId×Value->H):
  ReturnsInHanded {} Tryz.checked os 3 .any (λw args=>(Rows.fnRiverStaySpec.pre enc Tryz.prog Tryz.f3 Rows.fnRiverStayRow.domain A0 w args/\laidMetH Tryz.prog laid w)/\sizedMet enc Tryz.prog Tryz.f3 (R3 Rows.fnRiverStaySpec) A0 w args)
   (Rows.fnRiverStaySpec.post enc Tryz.prog Tryz.f3 A0 Y A0 A0):=by
 refine aCO (C:=Tryz.checked) (X:=λw _=>laidMetH Tryz.prog laid w) (λ_ _ _ hh h=>h.of_heap hh) own started aHf Tryz.func3
  (mV (enc:=enc) (C:=Tryz.checked) (os:=os) (X:=λw _=>laidMetH Tryz.prog laid w) A0 (World.laidAll Tryz.prog os laid) #[.slice G 0 0] 8 (World.laidAll_os _ _ _)
   (mW aHf aHf) aHf aHf aHf
   (by rw[U4 _ _ _ aHf];exact laidMet_laidAll _ aHf aHf)) ?_
 intro W args b0 ds gs before hsh pW hW hL;have Ji:∀(j:Nat) t v,Tryz.f3.params[j]? =I t->args[j]? =I v->Qt Tryz.prog W .any b0 t v:=pW;have hW':=hW;obtain⟨p,q,hA0,hV,rfl,_,_⟩:=hW;have hA:DataW.TrodAll enc Tryz.prog W 0 (λ_=>Y) Y Tryz.f3.params.toList args.toList ds p:=hA0;rw[Tryz.params3]at hA Ji;obtain⟨v0,vs0,d0,ds0,p0,q0,IN,rfl,rfl,h0,r0⟩:=trodAll_cons hA;obtain⟨rfl,rfl,rfl⟩:=trodAll_nil r0;obtain rfl:args= #[v0]:=by cases args;simp_all
 obtain⟨rfl,rfl⟩:=trodVars_none hV;have lt0:∀x∈p0,x.block<W.heap.size:=by obtain⟨m,hm⟩:=h0;exact DataW.trod_lt m _ _ _ hm
 obtain⟨x,hx,IT⟩:=aCY (h:= .fz .u8) (c:= .sl .u8) rfl aHf Tryz.underlying22 (Ji 0 22 v0 rfl rfl) h0;have RY:=aDy (f:=3) (ps:=[.fz .u8]) (g:=VK) adf.1 (q:=()) (Gc x hx) (w:=W) (args:=[v0]) (λM e hM=>⟨v0,[],[],[],rfl,rfl,IT M e hM,rfl,rfl⟩) (aDP hsh aHf hL aHf λ_=>⟨by kernel_rfl,by kernel_rfl⟩);refine RY.mono λe W' ⟨he,bel⟩=> ?_;subst he;exact⟨_,rfl,_,_,_,[],_,[],hW',trodAll_mk1<|shut_bool Tryz.underlying4 _,(trodAll_cons_mk (Below.trod aaI aHf (of_decide_eq_true aHf) h0 bel lt0) trodAll_mk0),rfl,bel.frame _,λh=>by cases h⟩
set_option maxHeartbeats 8000000 in
theorem closed:joinedFacts Tryz.prog 3 Tryz.f3 Rows.fnRiverStaySpec Rows.fnRiverStayRow=Y:=by
 unfold joinedFacts;simp only[AE];repeat' apply And.intro
 all_goals (as_aux_lemma=>kernel_rfl)
theorem Iw:Rows.FnRiverStaySaid:=
 mM 3 Tryz.f3 rfl rfl rfl rfl rfl rfl rfl ⟨rfl,rfl,rfl,rfl,rfl⟩ rfl rfl rfl rfl rfl (by as_aux_lemma=>kernel_rfl) Tryz.func3 closed
  (of_decide_eq_true<|by as_aux_lemma=>kernel_rfl) (by unfold Func.isWrapper;first|(rw[if_pos<|by decide+kernel];kernel_rfl)|(rw[if_neg<|by decide+kernel];exact⟨rfl,rfl⟩))
  (λos started H enc _=>oN os started H enc)
theorem card_holds:Rows.FnRiverStayCardSaid:=
 mS .later [] [.data,.data,.data,.data,.pinned] Y (Y,"ec31ed22d3f19b46881e5d8624e9861b599497ee737fc44ca0f3a05ef76f3ee3") A0 Iw (λ_ h=>by cases h) (by as_aux_lemma=>kernel_rfl) (λ_ h=>by cases h) fnRiverStay_row_tie rfl ⟨rfl,rfl⟩ (by as_aux_lemma=>kernel_rfl) rfl
  (λf fn hf hfn=>by
   obtain rfl:f=3:=E5 ((show Tryz.prog.funcNamed "loop.example/bargeman/laws.FnRiverStay" =I 3 by as_aux_lemma=>kernel_rfl).symm.trans hf) |>.symm;obtain rfl:fn=Tryz.f3:=(E5<|Tryz.func3.symm.trans hfn).symm;exact⟨by as_aux_lemma=>kernel_rfl,λj t ht=>by
    rw[Tryz.params3]at ht;have hm:=n8 ht;have hm':t∈[22]:=by simpa using hm
    have Ht:([22].all λu=> !Tryz.pinned.checked.prog.wantsStandIn u)=Y:=by as_aux_lemma=>kernel_rfl
    simpa using DB.1 Ht t hm'⟩)
  (by as_aux_lemma=>kernel_rfl)
#print axioms card_holds
end Go.Proofs.YtcdeafiabojglaaGreatDoor.fnRiverStay
end
