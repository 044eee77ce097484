/- FnRiverBack: Who falls in a calm and rises loses nothing that was forced. The law answers true at every argument that the statement lets in; no condition beyond the statement's own. -/
import Derived.Test.YtgjljlpdfceilaaGreatDoorCards
import Derived.Test.YtgjljlpdfceilaaGreatDoorTie
import Derived.ProofKit
import Derived.OpenShut
import Derived.LaidMore
import Derived.Lay
import Derived.SevenTiedAt
import Derived.Stop.Joined
import Derived.ChangeOld
import Derived.SizedLaws
import Derived.Carry
import Derived.Test.YtgjljlpdfceilaaGreatDoorQBackA
set_option linter.all false
open Option renaming some->I,none->G
open Bool renaming true->Y,false->A0
noncomputable section
namespace Go.Proofs.YtgjljlpdfceilaaGreatDoor.fnRiverBack
open Go.ChangeShapes Go.WideShapes Go.ChangeAt Go.RowKit Go.VS
theorem own:ownKnob Tryz.prog.godebug=G:=by kernel_rfl
theorem avB:laidOutB Tryz.prog=Y:=by kernel_rfl
abbrev laid:=Rows.fnRiverBackRow.laid
theorem auo{xs:List Int}(h:Za (.fz .u8) xs):BOk xs:=by
 intro n hn;have h1:(Go.Lit.int .u8 n).wf=Y:=h.2 n hn;exact bounds_u8 h1
theorem HP(x:LT (.fz .u8))(hw:Za (.fz .u8) x):UN (x,())=I ((Y,()),()):=axi<|auo hw
set_option maxRecDepth 100000 in
theorem awu (os:Os) (started:os.Started) (H:Type) (enc:TypeId×Value->H):
  ReturnsInHanded {} Tryz.checked os 7 .any (λw args=>(Rows.fnRiverBackSpec.pre enc Tryz.prog Tryz.f7 Rows.fnRiverBackRow.domain A0 w args/\laidMetH Tryz.prog laid w)/\sizedMet enc Tryz.prog Tryz.f7 (Go.OpenSpec.ofChange Rows.fnRiverBackSpec) A0 w args)
   (Rows.fnRiverBackSpec.post enc Tryz.prog Tryz.f7 A0 Y A0 A0):=by
 refine apk (C:=Tryz.checked) (X:=λw _=>laidMetH Tryz.prog laid w) (λ_ _ _ hh h=>h.of_heap hh) own started aFb Tryz.func7
  (ChangeSpec.witness_shaped (enc:=enc) (C:=Tryz.checked) (os:=os) (X:=λw _=>laidMetH Tryz.prog laid w) A0 (World.laidAll Tryz.prog os laid) #[.slice G 0 0] 8 (World.laidAll_os _ _ _)
   (World.shaped_of_ZipB aFb aFb) aFb aFb aFb
   (by rw[Go.MakeChecks.laidMetH_plain _ _ _ aFb];exact laidMet_laidAll _ aFb aFb)) ?_
 intro W args b0 ds gs before hsh ayb hW hL;have MF:∀(j:Nat) t v,Tryz.f7.params[j]? =I t->args[j]? =I v->Go.Value.okWide Tryz.prog W .any b0 t v:=ayb;have hW':=hW;obtain⟨p,q,hA0,hV,rfl,_,_⟩:=hW;have hA:DataW.TrodAll enc Tryz.prog W 0 (λ_=>Y) Y Tryz.f7.params.toList args.toList ds p:=hA0;rw[Tryz.params7]at hA MF;obtain⟨v0,vs0,d0,ds0,p0,q0,Ir,rfl,rfl,h0,r0⟩:=trodAll_cons hA;obtain⟨rfl,rfl,rfl⟩:=trodAll_nil r0;obtain rfl:args= #[v0]:=by cases args;simp_all
 obtain⟨rfl,rfl⟩:=trodVars_none hV;have lt0:∀x∈p0,x.block<W.heap.size:=by obtain⟨m,hm⟩:=h0;exact DataW.trod_lt m _ _ _ hm
 obtain⟨x,hx,JV⟩:=aqI (h:= .fz .u8) (c:= .sl .u8) rfl aFb Tryz.underlying22 (MF 0 22 v0 rfl rfl) h0;have Zt:=aso (f:=7) (ps:=[.fz .u8]) (g:=UN) aeA.1 (q:=()) (HP x hx) (w:=W) (args:=[v0]) (λM e hM=>⟨v0,[],[],[],rfl,rfl,JV M e hM,rfl,rfl⟩) (aqz hsh aFb hL aFb λ_=>⟨by kernel_rfl,by kernel_rfl⟩);refine Zt.mono λe W' ⟨he,bel⟩=> ?_;subst he;exact⟨_,rfl,_,_,_,[],_,[],hW',trodAll_mk1<|shut_bool Tryz.underlying4 _,(trodAll_cons_mk (Below.trod avB aFb (of_decide_eq_true aFb) h0 bel lt0) trodAll_mk0),rfl,bel.frame _,λh=>by cases h⟩
set_option maxHeartbeats 8000000 in
theorem closed:joinedFacts Tryz.prog 7 Tryz.f7 Rows.fnRiverBackSpec Rows.fnRiverBackRow=Y:=by
 unfold joinedFacts;simp only[Bool.and_eq_true];repeat' apply And.intro
 all_goals (as_aux_lemma=>kernel_rfl)
theorem Jv:Rows.FnRiverBackSaid:=
 OpenClaim.holds_of_wide 7 Tryz.f7 rfl rfl rfl rfl rfl rfl rfl ⟨rfl,rfl,rfl,rfl,rfl⟩ rfl rfl rfl rfl rfl (by as_aux_lemma=>kernel_rfl) Tryz.func7 closed
  (of_decide_eq_true<|by as_aux_lemma=>kernel_rfl) (by unfold Func.isWrapper;first|(rw[if_pos<|by decide+kernel];kernel_rfl)|(rw[if_neg<|by decide+kernel];exact⟨rfl,rfl⟩))
  (λos started H enc _=>awu os started H enc)
theorem card_holds:Rows.FnRiverBackCardSaid:=
 Claim7.holds_tied_plain_at .later [] [.data,.data,.data,.data,.pinned] Y (Y,"1cb1c31638e0356a1b0f0430c67202b0f3934fe29cb8e92061f485a4b29acafb") A0 Jv (λ_ h=>by cases h) (by as_aux_lemma=>kernel_rfl) (λ_ h=>by cases h) fnRiverBack_row_tie rfl ⟨rfl,rfl⟩ (by as_aux_lemma=>kernel_rfl) rfl
  (λf fn hf hfn=>by
   obtain rfl:f=7:=Option.some.inj ((show Tryz.prog.funcNamed "loop.example/bargeman/laws.FnRiverBack" =I 7 by as_aux_lemma=>kernel_rfl).symm.trans hf) |>.symm;obtain rfl:fn=Tryz.f7:=(Option.some.inj<|Tryz.func7.symm.trans hfn).symm;exact⟨by as_aux_lemma=>kernel_rfl,λj t ht=>by
    rw[Tryz.params7]at ht;have hm:=Array.mem_of_getElem? ht;have hm':t∈[22]:=by simpa using hm
    have It:([22].all λu=> !Tryz.pinned.checked.prog.wantsStandIn u)=Y:=by as_aux_lemma=>kernel_rfl
    simpa using List.all_eq_true.1 It t hm'⟩)
  (by as_aux_lemma=>kernel_rfl)
#print axioms card_holds
end Go.Proofs.YtgjljlpdfceilaaGreatDoor.fnRiverBack
end
