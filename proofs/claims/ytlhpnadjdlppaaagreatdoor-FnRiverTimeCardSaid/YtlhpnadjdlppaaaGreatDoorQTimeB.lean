/- FnRiverTime: A clock goes on only when it is said that it does. The law answers true at every argument that the statement lets in; no condition beyond the statement's own. -/
import Derived.Test.YtlhpnadjdlppaaaGreatDoorCards
import Derived.Test.YtlhpnadjdlppaaaGreatDoorTie
import Derived.ProofKit
import Derived.OpenShut
import Derived.LaidMore
import Derived.Lay
import Derived.SevenTiedAt
import Derived.Stop.Joined
import Derived.ChangeOld
import Derived.SizedLaws
import Derived.Carry
import Derived.Test.YtlhpnadjdlppaaaGreatDoorQTimeA
set_option linter.all false
open Option renaming some->I,none->U
open Bool renaming true->A1,false->A3
open Array renaming mem_of_getElem?->Ht
open Bool renaming and_eq_true->AI
open Go.ChangeSpec renaming witness_shaped->Hh
open Go.Claim7 renaming holds_tied_plain_at->Hz
open Go.DataW renaming TrodAll->HO,trod_lt->Gl
open Go.Func renaming isWrapper->I1
open Go.MakeChecks renaming laidMetH_plain->GX
open Go.OpenClaim renaming holds_of_wide->Hk
open Go.OpenSpec renaming ofChange->GK
open Go.Value renaming okWide->GG
open Go.World renaming laidAll->HL,laidAll_os->Hv,shaped_of_ZipB->Hb
open List renaming all_eq_true->C0
open Option.some renaming inj->CX
open Go.Lit renaming int->N3
noncomputable section
namespace Go.Proofs.YtlhpnadjdlppaaaGreatDoor.fnRiverTime
open Go.ChangeShapes Go.WideShapes Go.ChangeAt Go.RowKit Go.VS
set_option linter.unusedVariables false
theorem own:ownKnob Tryz.prog.godebug=U:=by kernel_rfl
theorem LV:laidOutB Tryz.prog=A1:=by kernel_rfl
theorem Kr{xs:List Int}(h:Io (.fz .u8) xs):BOk xs:=by
 intro n hn;have h1:(N3 .u8 n).wf=A1:=h.2 n hn;exact bounds_u8 h1
abbrev laid:=Rows.fnRiverTimeRow.laid
theorem DQ(x:LT (.fz .u8))(hw:Io (.fz .u8) x):U3 (x,())=I ((A1,()),()):=ary<|Kr hw
set_option maxRecDepth 100000 in
theorem Ho (os:Os) (started:os.Started) (H:Type) (enc:TypeId×Value->H):
  ReturnsInHanded {} Tryz.checked os 7 .any (λw args=>(Rows.fnRiverTimeSpec.pre enc Tryz.prog Tryz.f7 Rows.fnRiverTimeRow.domain A3 w args/\laidMetH Tryz.prog laid w)/\sizedMet enc Tryz.prog Tryz.f7 (GK Rows.fnRiverTimeSpec) A3 w args)
   (Rows.fnRiverTimeSpec.post enc Tryz.prog Tryz.f7 A3 A1 A3 A3):=by
 refine OC (C:=Tryz.checked) (X:=λw _=>laidMetH Tryz.prog laid w) (λ_ _ _ hh h=>h.of_heap hh) own started (by kernel_rfl) Tryz.func7
  (Hh (enc:=enc) (C:=Tryz.checked) (os:=os) (X:=λw _=>laidMetH Tryz.prog laid w) A3 (HL Tryz.prog os laid) #[.slice U 0 0] 8 (Hv _ _ _)
   (Hb (by kernel_rfl)<|by kernel_rfl) (by kernel_rfl) (by kernel_rfl) (by kernel_rfl)
   (by rw[GX _ _ _<|by kernel_rfl];exact laidMet_laidAll _ (by kernel_rfl)<|by kernel_rfl)) ?_
 intro W args b0 ds gs before hsh HQ hW hL;have DA:∀(j:Nat) t v,Tryz.f7.params[j]? =I t->args[j]? =I v->GG Tryz.prog W .any b0 t v:=HQ;have hW':=hW;obtain⟨p,q,hA0,hV,rfl,_,_⟩:=hW;have hA:HO enc Tryz.prog W 0 (λ_=>A1) A1 Tryz.f7.params.toList args.toList ds p:=hA0;rw[Tryz.params7]at hA DA;obtain⟨v0,vs0,d0,ds0,p0,q0,FX,rfl,rfl,h0,r0⟩:=trodAll_cons hA;obtain⟨rfl,rfl,rfl⟩:=trodAll_nil r0;obtain rfl:args= #[v0]:=by cases args;simp_all
 obtain⟨rfl,rfl⟩:=trodVars_none hV;have lt0:∀x∈p0,x.block<W.heap.size:=by obtain⟨m,hm⟩:=h0;exact Gl m _ _ _ hm
 obtain⟨x,hx,E0⟩:=L0 (h:= .fz .u8) (c:= .sl .u8) rfl (by kernel_rfl) Tryz.underlying22 (DA 0 22 v0 rfl rfl) h0;have GH:=Ms (f:=7) (ps:=[.fz .u8]) (g:=U3) aiM.1 (q:=()) (DQ x hx) (w:=W) (args:=[v0]) (λM e hM=>⟨v0,[],[],[],rfl,rfl,E0 M e hM,rfl,rfl⟩) (OA hsh (by kernel_rfl) hL (by kernel_rfl) λ_=>⟨by kernel_rfl,by kernel_rfl⟩);refine GH.mono λe W' ⟨he,bel⟩=> ?_;subst he;exact⟨_,rfl,_,_,_,[],_,[],hW',trodAll_mk1<|shut_bool Tryz.underlying4 _,(trodAll_cons_mk (Below.trod LV (by kernel_rfl) (of_decide_eq_true<|by kernel_rfl) h0 bel lt0) trodAll_mk0),rfl,bel.frame _,λh=>by cases h⟩
end Go.Proofs.YtlhpnadjdlppaaaGreatDoor.fnRiverTime
namespace Go.Proofs.YtlhpnadjdlppaaaGreatDoor.fnRiverTime
open Go.ChangeShapes Go.WideShapes Go.ChangeAt Go.RowKit
set_option linter.unusedVariables false
set_option maxHeartbeats 8000000 in
set_option maxHeartbeats 8000000 in
theorem closed:joinedFacts Tryz.prog 7 Tryz.f7 Rows.fnRiverTimeSpec Rows.fnRiverTimeRow=A1:=by
 unfold joinedFacts;simp only[AI];refine⟨⟨⟨⟨⟨⟨⟨⟨⟨⟨⟨⟨⟨⟨⟨⟨⟨⟨⟨⟨⟨⟨⟨⟨⟨⟨⟨⟨⟨⟨⟨?_, ?_⟩, ?_⟩, ?_⟩, ?_⟩, ?_⟩, ?_⟩, ?_⟩, ?_⟩, ?_⟩, ?_⟩, ?_⟩, ?_⟩, ?_⟩, ?_⟩, ?_⟩, ?_⟩, ?_⟩, ?_⟩, ?_⟩, ?_⟩, ?_⟩, ?_⟩, ?_⟩, ?_⟩, ?_⟩, ?_⟩, ?_⟩, ?_⟩, ?_⟩, ?_⟩, ?_⟩
 all_goals (as_aux_lemma=>kernel_rfl)
end Go.Proofs.YtlhpnadjdlppaaaGreatDoor.fnRiverTime
namespace Go.Proofs.YtlhpnadjdlppaaaGreatDoor.fnRiverTime
open Go.ChangeShapes Go.WideShapes Go.ChangeAt Go.RowKit
set_option linter.unusedVariables false
theorem HV:Rows.FnRiverTimeSaid:=
 Hk 7 Tryz.f7 rfl rfl rfl rfl rfl rfl rfl ⟨rfl,rfl,rfl,rfl,rfl⟩ rfl rfl rfl rfl rfl (by as_aux_lemma=>kernel_rfl) Tryz.func7 closed
  (of_decide_eq_true<|by as_aux_lemma=>kernel_rfl) (by unfold I1;first|(rw[if_pos<|by decide+kernel];kernel_rfl)|(rw[if_neg<|by decide+kernel];exact⟨rfl,rfl⟩))
  (λos started H enc _=>Ho os started H enc)
theorem card_holds:Rows.FnRiverTimeCardSaid:=
 Hz .later [] [.data,.data,.data,.data,.pinned] A1 (A1,"4d438c97c36e9565f3fc2cc001982745c4e8dc462489a03ab65d9987c233e2a6") A3 HV (λ_ h=>by cases h) (by as_aux_lemma=>kernel_rfl) (λ_ h=>by cases h) fnRiverTime_row_tie rfl ⟨rfl,rfl⟩ (by as_aux_lemma=>kernel_rfl) rfl
  (λf fn hf hfn=>by
   obtain rfl:f=7:=CX ((show Tryz.prog.funcNamed "loop.example/bargeman/laws.FnRiverTime" =I 7 by as_aux_lemma=>kernel_rfl).symm.trans hf) |>.symm;obtain rfl:fn=Tryz.f7:=(CX<|Tryz.func7.symm.trans hfn).symm;exact⟨by as_aux_lemma=>kernel_rfl,λj t ht=>by
    rw[Tryz.params7]at ht;have hm:=Ht ht;have hm':t∈[22]:=by simpa using hm
    have Du:([22].all λu=> !Tryz.pinned.checked.prog.wantsStandIn u)=A1:=by as_aux_lemma=>kernel_rfl
    simpa using C0.1 Du t hm'⟩)
  (by as_aux_lemma=>kernel_rfl)
#print axioms card_holds
end Go.Proofs.YtlhpnadjdlppaaaGreatDoor.fnRiverTime
end
