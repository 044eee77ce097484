/- FnRiverCame: In a calm each message comes whose time has come for nobody on its way. The law answers true at every argument that the statement lets in; no condition beyond the statement's own. -/
import Derived.Test.YtgjljlpdfceilaaGreatDoorCards
import Derived.Test.YtgjljlpdfceilaaGreatDoorTie
import Derived.ProofKit
import Derived.OpenShut
import Derived.LaidMore
import Derived.Lay
import Derived.SevenTiedAt
import Derived.Stop.Joined
import Derived.ChangeOld
import Derived.SizedLaws
import Derived.Carry
import Derived.Test.YtgjljlpdfceilaaGreatDoorQCameA
set_option linter.all false
open Option renaming some->I,none->G
open Bool renaming true->Y,false->A0
open Array renaming mem_of_getElem?->KS
open Bool renaming and_eq_true->AD
open Go.ChangeSpec renaming witness_shaped->KV
open Go.Claim7 renaming holds_tied_plain_at->KU
open Go.DataW renaming TrodAll->Kd,trod_lt->Jt
open Go.Func renaming isWrapper->Ka
open Go.MakeChecks renaming laidMetH_plain->JB
open Go.OpenClaim renaming holds_of_wide->KX
open Go.OpenSpec renaming ofChange->IW
open Go.Value renaming okWide->Ia
open Go.World renaming laidAll->Kc,laidAll_os->Kj,shaped_of_ZipB->Kg
open List renaming all_eq_true->CZ
open Option.some renaming inj->Ck
open Go.Lit renaming int->Nu
noncomputable section
namespace Go.Proofs.YtgjljlpdfceilaaGreatDoor.fnRiverCame
open Go.ChangeShapes Go.WideShapes Go.ChangeAt Go.RowKit Go.VS
theorem own:ownKnob Tryz.prog.godebug=G:=by kernel_rfl
theorem PE:laidOutB Tryz.prog=Y:=by kernel_rfl
theorem P8{xs:List Int}(h:Lj (.fz .u8) xs):BOk xs:=by
 intro n hn;have h1:(Nu .u8 n).wf=Y:=h.2 n hn;exact bounds_u8 h1
abbrev laid:=Rows.fnRiverCameRow.laid
theorem Eb(x:LT (.fz .u8))(hw:Lj (.fz .u8) x):W7 (x,())=I ((Y,()),()):=azI<|P8 hw
set_option maxRecDepth 100000 in
theorem KH (os:Os) (started:os.Started) (H:Type) (enc:TypeId×Value->H):
  ReturnsInHanded {} Tryz.checked os 5 .any (λw args=>(Rows.fnRiverCameSpec.pre enc Tryz.prog Tryz.f5 Rows.fnRiverCameRow.domain A0 w args/\laidMetH Tryz.prog laid w)/\sizedMet enc Tryz.prog Tryz.f5 (IW Rows.fnRiverCameSpec) A0 w args)
   (Rows.fnRiverCameSpec.post enc Tryz.prog Tryz.f5 A0 Y A0 A0):=by
 refine TS (C:=Tryz.checked) (X:=λw _=>laidMetH Tryz.prog laid w) (λ_ _ _ hh h=>h.of_heap hh) own started aJU Tryz.func5
  (KV (enc:=enc) (C:=Tryz.checked) (os:=os) (X:=λw _=>laidMetH Tryz.prog laid w) A0 (Kc Tryz.prog os laid) #[.slice G 0 0] 8 (Kj _ _ _)
   (Kg aJU aJU) aJU aJU aJU
   (by rw[JB _ _ _ aJU];exact laidMet_laidAll _ aJU aJU)) ?_
 intro W args b0 ds gs before hsh Ky hW hL;have Eo:∀(j:Nat) t v,Tryz.f5.params[j]? =I t->args[j]? =I v->Ia Tryz.prog W .any b0 t v:=Ky;have hW':=hW;obtain⟨p,q,hA0,hV,rfl,_,_⟩:=hW;have hA:Kd enc Tryz.prog W 0 (λ_=>Y) Y Tryz.f5.params.toList args.toList ds p:=hA0;rw[Tryz.params5]at hA Eo;obtain⟨v0,vs0,d0,ds0,p0,q0,Gp,rfl,rfl,h0,r0⟩:=trodAll_cons hA;obtain⟨rfl,rfl,rfl⟩:=trodAll_nil r0;obtain rfl:args= #[v0]:=by cases args;simp_all
 obtain⟨rfl,rfl⟩:=trodVars_none hV;have lt0:∀x∈p0,x.block<W.heap.size:=by obtain⟨m,hm⟩:=h0;exact Jt m _ _ _ hm
 obtain⟨x,hx,FV⟩:=Qj (h:= .fz .u8) (c:= .sl .u8) rfl aJU Tryz.underlying22 (Eo 0 22 v0 rfl rfl) h0;have Ig:=Qq (f:=5) (ps:=[.fz .u8]) (g:=W7) aca.1 (q:=()) (Eb x hx) (w:=W) (args:=[v0]) (λM e hM=>⟨v0,[],[],[],rfl,rfl,FV M e hM,rfl,rfl⟩) (Tb hsh aJU hL aJU λ_=>⟨by kernel_rfl,by kernel_rfl⟩);refine Ig.mono λe W' ⟨he,bel⟩=> ?_;subst he;exact⟨_,rfl,_,_,_,[],_,[],hW',trodAll_mk1<|shut_bool Tryz.underlying4 _,(trodAll_cons_mk (Below.trod PE aJU (of_decide_eq_true aJU) h0 bel lt0) trodAll_mk0),rfl,bel.frame _,λh=>by cases h⟩
set_option maxHeartbeats 8000000 in
theorem closed:joinedFacts Tryz.prog 5 Tryz.f5 Rows.fnRiverCameSpec Rows.fnRiverCameRow=Y:=by
 unfold joinedFacts;simp only[AD];repeat' apply And.intro
 all_goals (as_aux_lemma=>kernel_rfl)
theorem F8:Rows.FnRiverCameSaid:=
 KX 5 Tryz.f5 rfl rfl rfl rfl rfl rfl rfl ⟨rfl,rfl,rfl,rfl,rfl⟩ rfl rfl rfl rfl rfl (by as_aux_lemma=>kernel_rfl) Tryz.func5 closed
  (of_decide_eq_true<|by as_aux_lemma=>kernel_rfl) (by unfold Ka;first|(rw[if_pos<|by decide+kernel];kernel_rfl)|(rw[if_neg<|by decide+kernel];exact⟨rfl,rfl⟩))
  (λos started H enc _=>KH os started H enc)
theorem card_holds:Rows.FnRiverCameCardSaid:=
 KU .later [] [.data,.data,.data,.data,.pinned] Y (Y,"1cb1c31638e0356a1b0f0430c67202b0f3934fe29cb8e92061f485a4b29acafb") A0 F8 (λ_ h=>by cases h) (by as_aux_lemma=>kernel_rfl) (λ_ h=>by cases h) fnRiverCame_row_tie rfl ⟨rfl,rfl⟩ (by as_aux_lemma=>kernel_rfl) rfl
  (λf fn hf hfn=>by
   obtain rfl:f=5:=Ck ((show Tryz.prog.funcNamed "loop.example/bargeman/laws.FnRiverCame" =I 5 by as_aux_lemma=>kernel_rfl).symm.trans hf) |>.symm;obtain rfl:fn=Tryz.f5:=(Ck<|Tryz.func5.symm.trans hfn).symm;exact⟨by as_aux_lemma=>kernel_rfl,λj t ht=>by
    rw[Tryz.params5]at ht;have hm:=KS ht;have hm':t∈[22]:=by simpa using hm
    have EG:([22].all λu=> !Tryz.pinned.checked.prog.wantsStandIn u)=Y:=by as_aux_lemma=>kernel_rfl
    simpa using CZ.1 EG t hm'⟩)
  (by as_aux_lemma=>kernel_rfl)
#print axioms card_holds
end Go.Proofs.YtgjljlpdfceilaaGreatDoor.fnRiverCame
end
