/- FnRiverNew: A message that is taken in in a calm comes. The law answers true at every argument that the statement lets in; no condition beyond the statement's own. -/
import Derived.Test.YtgjljlpdfceilaaGreatDoorCards
import Derived.Test.YtgjljlpdfceilaaGreatDoorTie
import Derived.ProofKit
import Derived.OpenShut
import Derived.LaidMore
import Derived.Lay
import Derived.SevenTiedAt
import Derived.Stop.Joined
import Derived.ChangeOld
import Derived.SizedLaws
import Derived.Carry
import Derived.Test.YtgjljlpdfceilaaGreatDoorQNewA
set_option linter.all false
open Option renaming some->I,none->G
open Bool renaming true->Y,false->A0
open Bool renaming and_eq_true->AD
open Go.Lit renaming int->N7
open Go.MakeChecks renaming laidMetH_plain->lK
open Go.OpenSpec renaming ofChange->Ye
open Go.Value renaming okWide->YZ
open List renaming all_eq_true->DM
open Option.some renaming inj->Ei
noncomputable section
namespace Go.Proofs.YtgjljlpdfceilaaGreatDoor.fnRiverNew
open Go.ChangeShapes Go.WideShapes Go.ChangeAt Go.RowKit Go.VS
theorem own:ownKnob Tryz.prog.godebug=G:=by kernel_rfl
theorem awL:laidOutB Tryz.prog=Y:=by kernel_rfl
abbrev laid:=Rows.fnRiverNewRow.laid
theorem avQ{xs:List Int}(h:ZQ (.fz .u8) xs):BOk xs:=by
 intro n hn;have h1:(N7 .u8 n).wf=Y:=h.2 n hn;exact bounds_u8 h1
theorem HS(x:LT (.fz .u8))(hw:ZQ (.fz .u8) x):Ub (x,())=I ((Y,()),()):=axF<|avQ hw
set_option maxRecDepth 100000 in
theorem axQ (os:Os) (started:os.Started) (H:Type) (enc:TypeId×Value->H):
  ReturnsInHanded {} Tryz.checked os 4 .any (λw args=>(Rows.fnRiverNewSpec.pre enc Tryz.prog Tryz.f4 Rows.fnRiverNewRow.domain A0 w args/\laidMetH Tryz.prog laid w)/\sizedMet enc Tryz.prog Tryz.f4 (Ye Rows.fnRiverNewSpec) A0 w args)
   (Rows.fnRiverNewSpec.post enc Tryz.prog Tryz.f4 A0 Y A0 A0):=by
 refine apc (C:=Tryz.checked) (X:=λw _=>laidMetH Tryz.prog laid w) (λ_ _ _ hh h=>h.of_heap hh) own started aEr Tryz.func4
  (ChangeSpec.witness_shaped (enc:=enc) (C:=Tryz.checked) (os:=os) (X:=λw _=>laidMetH Tryz.prog laid w) A0 (World.laidAll Tryz.prog os laid) #[.slice G 0 0] 8 (World.laidAll_os _ _ _)
   (World.shaped_of_ZipB aEr aEr) aEr aEr aEr
   (by rw[lK _ _ _ aEr];exact laidMet_laidAll _ aEr aEr)) ?_
 intro W args b0 ds gs before hsh ayU hW hL;have MF:∀(j:Nat) t v,Tryz.f4.params[j]? =I t->args[j]? =I v->YZ Tryz.prog W .any b0 t v:=ayU;have hW':=hW;obtain⟨p,q,hA0,hV,rfl,_,_⟩:=hW;have hA:DataW.TrodAll enc Tryz.prog W 0 (λ_=>Y) Y Tryz.f4.params.toList args.toList ds p:=hA0;rw[Tryz.params4]at hA MF;obtain⟨v0,vs0,d0,ds0,p0,q0,Ir,rfl,rfl,h0,r0⟩:=trodAll_cons hA;obtain⟨rfl,rfl,rfl⟩:=trodAll_nil r0;obtain rfl:args= #[v0]:=by cases args;simp_all
 obtain⟨rfl,rfl⟩:=trodVars_none hV;have lt0:∀x∈p0,x.block<W.heap.size:=by obtain⟨m,hm⟩:=h0;exact DataW.trod_lt m _ _ _ hm
 obtain⟨x,hx,JV⟩:=aqj (h:= .fz .u8) (c:= .sl .u8) rfl aEr Tryz.underlying22 (MF 0 22 v0 rfl rfl) h0;have Zj:=arv (f:=4) (ps:=[.fz .u8]) (g:=Ub) aeN.1 (q:=()) (HS x hx) (w:=W) (args:=[v0]) (λM e hM=>⟨v0,[],[],[],rfl,rfl,JV M e hM,rfl,rfl⟩) (aqU hsh aEr hL aEr λ_=>⟨by kernel_rfl,by kernel_rfl⟩);refine Zj.mono λe W' ⟨he,bel⟩=> ?_;subst he;exact⟨_,rfl,_,_,_,[],_,[],hW',trodAll_mk1<|shut_bool Tryz.underlying4 _,(trodAll_cons_mk (Below.trod awL aEr (of_decide_eq_true aEr) h0 bel lt0) trodAll_mk0),rfl,bel.frame _,λh=>by cases h⟩
set_option maxHeartbeats 8000000 in
theorem closed:joinedFacts Tryz.prog 4 Tryz.f4 Rows.fnRiverNewSpec Rows.fnRiverNewRow=Y:=by
 unfold joinedFacts;simp only[AD];repeat' apply And.intro
 all_goals (as_aux_lemma=>kernel_rfl)
theorem JE:Rows.FnRiverNewSaid:=
 OpenClaim.holds_of_wide 4 Tryz.f4 rfl rfl rfl rfl rfl rfl rfl ⟨rfl,rfl,rfl,rfl,rfl⟩ rfl rfl rfl rfl rfl (by as_aux_lemma=>kernel_rfl) Tryz.func4 closed
  (of_decide_eq_true<|by as_aux_lemma=>kernel_rfl) (by unfold Func.isWrapper;first|(rw[if_pos<|by decide+kernel];kernel_rfl)|(rw[if_neg<|by decide+kernel];exact⟨rfl,rfl⟩))
  (λos started H enc _=>axQ os started H enc)
theorem card_holds:Rows.FnRiverNewCardSaid:=
 Claim7.holds_tied_plain_at .later [] [.data,.data,.data,.data,.pinned] Y (Y,"1cb1c31638e0356a1b0f0430c67202b0f3934fe29cb8e92061f485a4b29acafb") A0 JE (λ_ h=>by cases h) (by as_aux_lemma=>kernel_rfl) (λ_ h=>by cases h) fnRiverNew_row_tie rfl ⟨rfl,rfl⟩ (by as_aux_lemma=>kernel_rfl) rfl
  (λf fn hf hfn=>by
   obtain rfl:f=4:=Ei ((show Tryz.prog.funcNamed "loop.example/bargeman/laws.FnRiverNew" =I 4 by as_aux_lemma=>kernel_rfl).symm.trans hf) |>.symm;obtain rfl:fn=Tryz.f4:=(Ei<|Tryz.func4.symm.trans hfn).symm;exact⟨by as_aux_lemma=>kernel_rfl,λj t ht=>by
    rw[Tryz.params4]at ht;have hm:=Array.mem_of_getElem? ht;have hm':t∈[22]:=by simpa using hm
    have Is:([22].all λu=> !Tryz.pinned.checked.prog.wantsStandIn u)=Y:=by as_aux_lemma=>kernel_rfl
    simpa using DM.1 Is t hm'⟩)
  (by as_aux_lemma=>kernel_rfl)
#print axioms card_holds
end Go.Proofs.YtgjljlpdfceilaaGreatDoor.fnRiverNew
end
