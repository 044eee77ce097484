/- FnRiverLate: A message never comes behind its time by the clock where it is to come. The law answers true at every argument that the statement lets in; no condition beyond the statement's own. -/
import Derived.Test.YtgjljlpdfceilaaGreatDoorCards
import Derived.Test.YtgjljlpdfceilaaGreatDoorTie
import Derived.ProofKit
import Derived.OpenShut
import Derived.LaidMore
import Derived.Lay
import Derived.SevenTiedAt
import Derived.Stop.Joined
import Derived.ChangeOld
import Derived.SizedLaws
import Derived.Carry
import Derived.Test.YtgjljlpdfceilaaGreatDoorQLateA
set_option linter.all false
open Option renaming some->I,none->A0
open Bool renaming true->U,false->A3
open Array renaming mem_of_getElem?->KS
open Bool renaming and_eq_true->AG
open Go.ChangeSpec renaming witness_shaped->KV
open Go.Claim7 renaming holds_tied_plain_at->KU
open Go.DataW renaming TrodAll->Kd,trod_lt->Jt
open Go.Func renaming isWrapper->Ka
open Go.MakeChecks renaming laidMetH_plain->JB
open Go.OpenClaim renaming holds_of_wide->KX
open Go.OpenSpec renaming ofChange->IW
open Go.Value renaming okWide->Ia
open Go.World renaming laidAll->Kc,laidAll_os->Kj,shaped_of_ZipB->Kg
open List renaming all_eq_true->Cb
open Option.some renaming inj->Cn
open Go.Lit renaming int->Nu
noncomputable section
namespace Go.Proofs.YtgjljlpdfceilaaGreatDoor.fnRiverLate
open Go.ChangeShapes Go.WideShapes Go.ChangeAt Go.RowKit Go.VS
set_option linter.unusedVariables false
theorem own:ownKnob Tryz.prog.godebug=A0:=by kernel_rfl
theorem PE:laidOutB Tryz.prog=U:=by kernel_rfl
theorem P8{xs:List Int}(h:Lj (.fz .u8) xs):BOk xs:=by
 intro n hn;have h1:(Nu .u8 n).wf=U:=h.2 n hn;exact bounds_u8 h1
abbrev laid:=Rows.fnRiverLateRow.laid
theorem Ed(x:LTs [.fz .u8,.fz .u8])(h1:Lj (.fz .u8) x.1)(h2:Lj (.fz .u8) x.2.1):W5 x=I ((U,()),()):=ayQ (P8 h1)<|P8 h2
set_option maxRecDepth 100000 in
theorem KH (os:Os) (started:os.Started) (H:Type) (enc:TypeId×Value->H):
  ReturnsInHanded {} Tryz.checked os 3 .any (λw args=>(Rows.fnRiverLateSpec.pre enc Tryz.prog Tryz.f3 Rows.fnRiverLateRow.domain A3 w args/\laidMetH Tryz.prog laid w)/\sizedMet enc Tryz.prog Tryz.f3 (IW Rows.fnRiverLateSpec) A3 w args)
   (Rows.fnRiverLateSpec.post enc Tryz.prog Tryz.f3 A3 U A3 A3):=by
 refine TS (C:=Tryz.checked) (X:=λw _=>laidMetH Tryz.prog laid w) (λ_ _ _ hh h=>h.of_heap hh) own started (by kernel_rfl) Tryz.func3
  (KV (enc:=enc) (C:=Tryz.checked) (os:=os) (X:=λw _=>laidMetH Tryz.prog laid w) A3 (Kc Tryz.prog os laid) #[.slice A0 0 0,.slice A0 0 0] 8 (Kj _ _ _)
   (Kg (by kernel_rfl)<|by kernel_rfl) (by kernel_rfl) (by kernel_rfl) (by kernel_rfl)
   (by rw[JB _ _ _<|by kernel_rfl];exact laidMet_laidAll _ (by kernel_rfl)<|by kernel_rfl)) ?_
 intro W args b0 ds gs before hsh Ky hW hL;have Er:∀(j:Nat) t v,Tryz.f3.params[j]? =I t->args[j]? =I v->Ia Tryz.prog W .any b0 t v:=Ky;have hW':=hW;obtain⟨p,q,hA0,hV,rfl,_,_⟩:=hW;have hA:Kd enc Tryz.prog W 0 (λ_=>U) U Tryz.f3.params.toList args.toList ds p:=hA0;rw[Tryz.params3]at hA Er;obtain⟨v0,vs0,d0,ds0,p0,q0,Gq,rfl,rfl,h0,r0⟩:=trodAll_cons hA;obtain⟨v1,vs1,d1,ds1,p1,q1,azp,rfl,rfl,h1,r1⟩:=trodAll_cons r0;obtain⟨rfl,rfl,rfl⟩:=trodAll_nil r1;obtain rfl:args= #[v0,v1]:=by cases args;simp_all
 obtain⟨rfl,rfl⟩:=trodVars_none hV;have lt0:∀x∈p0,x.block<W.heap.size:=by obtain⟨m,hm⟩:=h0;exact Jt m _ _ _ hm
 have lt1:∀x∈p1,x.block<W.heap.size:=by obtain⟨m,hm⟩:=h1;exact Jt m _ _ _ hm
 obtain⟨x,hx,FX⟩:=Qj (h:= .fz .u8) (c:= .sl .u8) rfl (by kernel_rfl) Tryz.underlying22 (Er 0 22 v0 rfl rfl) h0;obtain⟨y,hy,aku⟩:=Qj (h:= .fz .u8) (c:= .sl .u8) rfl (by kernel_rfl) Tryz.underlying22 (Er 1 22 v1 rfl rfl) h1;have Ig:=Qq (f:=3) (ps:=[.fz .u8,.fz .u8]) (g:=W5) acY.1 (q:=()) (Ed (x,y,()) hx hy) (w:=W) (args:=[v0,v1]) (λM e hM=>⟨v0,[v1],[],[],rfl,rfl,FX M e hM,v1,[],[],[],rfl,rfl,aku M e hM,rfl,rfl⟩) (Tb hsh (by kernel_rfl) hL (by kernel_rfl) λ_=>⟨by kernel_rfl,by kernel_rfl⟩);refine Ig.mono λe W' ⟨he,bel⟩=> ?_;subst he;exact⟨_,rfl,_,_,_,[],_,[],hW',trodAll_mk1<|shut_bool Tryz.underlying4 _,(trodAll_cons_mk (Below.trod PE (by kernel_rfl) (of_decide_eq_true<|by kernel_rfl) h0 bel lt0)<|trodAll_cons_mk (Below.trod PE (by kernel_rfl) (of_decide_eq_true<|by kernel_rfl) h1 bel lt1) trodAll_mk0),rfl,bel.frame _,λh=>by cases h⟩
end Go.Proofs.YtgjljlpdfceilaaGreatDoor.fnRiverLate
namespace Go.Proofs.YtgjljlpdfceilaaGreatDoor.fnRiverLate
open Go.ChangeShapes Go.WideShapes Go.ChangeAt Go.RowKit
set_option linter.unusedVariables false
set_option maxHeartbeats 8000000 in
set_option maxHeartbeats 8000000 in
theorem closed:joinedFacts Tryz.prog 3 Tryz.f3 Rows.fnRiverLateSpec Rows.fnRiverLateRow=U:=by
 unfold joinedFacts;simp only[AG];refine⟨⟨⟨⟨⟨⟨⟨⟨⟨⟨⟨⟨⟨⟨⟨⟨⟨⟨⟨⟨⟨⟨⟨⟨⟨⟨⟨⟨⟨⟨⟨?_, ?_⟩, ?_⟩, ?_⟩, ?_⟩, ?_⟩, ?_⟩, ?_⟩, ?_⟩, ?_⟩, ?_⟩, ?_⟩, ?_⟩, ?_⟩, ?_⟩, ?_⟩, ?_⟩, ?_⟩, ?_⟩, ?_⟩, ?_⟩, ?_⟩, ?_⟩, ?_⟩, ?_⟩, ?_⟩, ?_⟩, ?_⟩, ?_⟩, ?_⟩, ?_⟩, ?_⟩
 all_goals (as_aux_lemma=>kernel_rfl)
end Go.Proofs.YtgjljlpdfceilaaGreatDoor.fnRiverLate
namespace Go.Proofs.YtgjljlpdfceilaaGreatDoor.fnRiverLate
open Go.ChangeShapes Go.WideShapes Go.ChangeAt Go.RowKit
set_option linter.unusedVariables false
theorem FA:Rows.FnRiverLateSaid:=
 KX 3 Tryz.f3 rfl rfl rfl rfl rfl rfl rfl ⟨rfl,rfl,rfl,rfl,rfl⟩ rfl rfl rfl rfl rfl (by as_aux_lemma=>kernel_rfl) Tryz.func3 closed
  (of_decide_eq_true<|by as_aux_lemma=>kernel_rfl) (by unfold Ka;first|(rw[if_pos<|by decide+kernel];kernel_rfl)|(rw[if_neg<|by decide+kernel];exact⟨rfl,rfl⟩))
  (λos started H enc _=>KH os started H enc)
theorem card_holds:Rows.FnRiverLateCardSaid:=
 KU .later [] [.data,.data,.data,.data,.pinned] U (U,"1cb1c31638e0356a1b0f0430c67202b0f3934fe29cb8e92061f485a4b29acafb") A3 FA (λ_ h=>by cases h) (by as_aux_lemma=>kernel_rfl) (λ_ h=>by cases h) fnRiverLate_row_tie rfl ⟨rfl,rfl⟩ (by as_aux_lemma=>kernel_rfl) rfl
  (λf fn hf hfn=>by
   obtain rfl:f=3:=Cn ((show Tryz.prog.funcNamed "loop.example/bargeman/laws.FnRiverLate" =I 3 by as_aux_lemma=>kernel_rfl).symm.trans hf) |>.symm;obtain rfl:fn=Tryz.f3:=(Cn<|Tryz.func3.symm.trans hfn).symm;exact⟨by as_aux_lemma=>kernel_rfl,λj t ht=>by
    rw[Tryz.params3]at ht;have hm:=KS ht;have hm':t∈[22]:=by simpa using hm
    have EI:([22].all λu=> !Tryz.pinned.checked.prog.wantsStandIn u)=U:=by as_aux_lemma=>kernel_rfl
    simpa using Cb.1 EI t hm'⟩)
  (by as_aux_lemma=>kernel_rfl)
#print axioms card_holds
end Go.Proofs.YtgjljlpdfceilaaGreatDoor.fnRiverLate
end
