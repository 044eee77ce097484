/- FnRiverNever: Without links nothing is handed on. The law answers true at every argument that the statement lets in; no condition beyond the statement's own. -/
import Derived.Test.YtplahhbealfpcaaGreatDoorCards
import Derived.Test.YtplahhbealfpcaaGreatDoorTie
import Derived.ProofKit
import Derived.OpenShut
import Derived.LaidMore
import Derived.Lay
import Derived.SevenTiedAt
import Derived.Stop.Joined
import Derived.ChangeOld
import Derived.SizedLaws
import Derived.Carry
import Derived.Test.YtplahhbealfpcaaGreatDoorQNeverA
set_option linter.all false
open Option renaming some->I,none->U
open Bool renaming true->A0,false->A3
open Array renaming mem_of_getElem?->HS
open Bool renaming and_eq_true->AE
open Go.ChangeSpec renaming witness_shaped->HZ
open Go.Claim7 renaming holds_tied_plain_at->HY
open Go.DataW renaming TrodAll->Hb,trod_lt->GU
open Go.Func renaming isWrapper->Hc
open Go.MakeChecks renaming laidMetH_plain->Gb
open Go.OpenClaim renaming holds_of_wide->HR
open Go.OpenSpec renaming ofChange->GC
open Go.Value renaming okWide->GF
open Go.World renaming laidAll->Hd,laidAll_os->HQ,shaped_of_ZipB->HT
open List renaming all_eq_true->C0
open Option.some renaming inj->C8
open Go.Lit renaming int->NO
noncomputable section
namespace Go.Proofs.YtplahhbealfpcaaGreatDoor.fnRiverNever
open Go.ChangeShapes Go.WideShapes Go.ChangeAt Go.RowKit Go.VS
set_option linter.unusedVariables false
theorem own:ownKnob Tryz.prog.godebug=U:=by kernel_rfl
theorem Ld:laidOutB Tryz.prog=A0:=by kernel_rfl
theorem La{xs:List Int}(h:IZ (.fz .u8) xs):BOk xs:=by
 intro n hn;have h1:(NO .u8 n).wf=A0:=h.2 n hn;exact bounds_u8 h1
abbrev laid:=Rows.fnRiverNeverRow.laid
theorem Da(x:LT (.fz .u8))(hw:IZ (.fz .u8) x):UO (x,())=I ((A0,()),()):=aw1<|La hw
set_option maxRecDepth 100000 in
theorem Hy (os:Os) (started:os.Started) (H:Type) (enc:TypeId×Value->H):
  ReturnsInHanded {} Tryz.checked os 7 .any (λw args=>(Rows.fnRiverNeverSpec.pre enc Tryz.prog Tryz.f7 Rows.fnRiverNeverRow.domain A3 w args/\laidMetH Tryz.prog laid w)/\sizedMet enc Tryz.prog Tryz.f7 (GC Rows.fnRiverNeverSpec) A3 w args)
   (Rows.fnRiverNeverSpec.post enc Tryz.prog Tryz.f7 A3 A0 A3 A3):=by
 refine OF (C:=Tryz.checked) (X:=λw _=>laidMetH Tryz.prog laid w) (λ_ _ _ hh h=>h.of_heap hh) own started (by kernel_rfl) Tryz.func7
  (HZ (enc:=enc) (C:=Tryz.checked) (os:=os) (X:=λw _=>laidMetH Tryz.prog laid w) A3 (Hd Tryz.prog os laid) #[.slice U 0 0] 8 (HQ _ _ _)
   (HT (by kernel_rfl)<|by kernel_rfl) (by kernel_rfl) (by kernel_rfl) (by kernel_rfl)
   (by rw[Gb _ _ _<|by kernel_rfl];exact laidMet_laidAll _ (by kernel_rfl)<|by kernel_rfl)) ?_
 intro W args b0 ds gs before hsh Hg hW hL;have DH:∀(j:Nat) t v,Tryz.f7.params[j]? =I t->args[j]? =I v->GF Tryz.prog W .any b0 t v:=Hg;have hW':=hW;obtain⟨p,q,hA0,hV,rfl,_,_⟩:=hW;have hA:Hb enc Tryz.prog W 0 (λ_=>A0) A0 Tryz.f7.params.toList args.toList ds p:=hA0;rw[Tryz.params7]at hA DH;obtain⟨v0,vs0,d0,ds0,p0,q0,FX,rfl,rfl,h0,r0⟩:=trodAll_cons hA;obtain⟨rfl,rfl,rfl⟩:=trodAll_nil r0;obtain rfl:args= #[v0]:=by cases args;simp_all
 obtain⟨rfl,rfl⟩:=trodVars_none hV;have lt0:∀x∈p0,x.block<W.heap.size:=by obtain⟨m,hm⟩:=h0;exact GU m _ _ _ hm
 obtain⟨x,hx,EB⟩:=LU (h:= .fz .u8) (c:= .sl .u8) rfl (by kernel_rfl) Tryz.underlying22 (DH 0 22 v0 rfl rfl) h0;have GI:=ON (f:=7) (ps:=[.fz .u8]) (g:=UO) adf.1 (q:=()) (Da x hx) (w:=W) (args:=[v0]) (λM e hM=>⟨v0,[],[],[],rfl,rfl,EB M e hM,rfl,rfl⟩) (OI hsh (by kernel_rfl) hL (by kernel_rfl) λ_=>⟨by kernel_rfl,by kernel_rfl⟩);refine GI.mono λe W' ⟨he,bel⟩=> ?_;subst he;exact⟨_,rfl,_,_,_,[],_,[],hW',trodAll_mk1<|shut_bool Tryz.underlying4 _,(trodAll_cons_mk (Below.trod Ld (by kernel_rfl) (of_decide_eq_true<|by kernel_rfl) h0 bel lt0) trodAll_mk0),rfl,bel.frame _,λh=>by cases h⟩
end Go.Proofs.YtplahhbealfpcaaGreatDoor.fnRiverNever
namespace Go.Proofs.YtplahhbealfpcaaGreatDoor.fnRiverNever
open Go.ChangeShapes Go.WideShapes Go.ChangeAt Go.RowKit
set_option linter.unusedVariables false
set_option maxHeartbeats 8000000 in
set_option maxHeartbeats 8000000 in
theorem closed:joinedFacts Tryz.prog 7 Tryz.f7 Rows.fnRiverNeverSpec Rows.fnRiverNeverRow=A0:=by
 unfold joinedFacts;simp only[AE];refine⟨⟨⟨⟨⟨⟨⟨⟨⟨⟨⟨⟨⟨⟨⟨⟨⟨⟨⟨⟨⟨⟨⟨⟨⟨⟨⟨⟨⟨⟨⟨?_, ?_⟩, ?_⟩, ?_⟩, ?_⟩, ?_⟩, ?_⟩, ?_⟩, ?_⟩, ?_⟩, ?_⟩, ?_⟩, ?_⟩, ?_⟩, ?_⟩, ?_⟩, ?_⟩, ?_⟩, ?_⟩, ?_⟩, ?_⟩, ?_⟩, ?_⟩, ?_⟩, ?_⟩, ?_⟩, ?_⟩, ?_⟩, ?_⟩, ?_⟩, ?_⟩, ?_⟩
 all_goals (as_aux_lemma=>kernel_rfl)
end Go.Proofs.YtplahhbealfpcaaGreatDoor.fnRiverNever
namespace Go.Proofs.YtplahhbealfpcaaGreatDoor.fnRiverNever
open Go.ChangeShapes Go.WideShapes Go.ChangeAt Go.RowKit
set_option linter.unusedVariables false
theorem EW:Rows.FnRiverNeverSaid:=
 HR 7 Tryz.f7 rfl rfl rfl rfl rfl rfl rfl ⟨rfl,rfl,rfl,rfl,rfl⟩ rfl rfl rfl rfl rfl (by as_aux_lemma=>kernel_rfl) Tryz.func7 closed
  (of_decide_eq_true<|by as_aux_lemma=>kernel_rfl) (by unfold Hc;first|(rw[if_pos<|by decide+kernel];kernel_rfl)|(rw[if_neg<|by decide+kernel];exact⟨rfl,rfl⟩))
  (λos started H enc _=>Hy os started H enc)
theorem card_holds:Rows.FnRiverNeverCardSaid:=
 HY .later [] [.data,.data,.data,.data,.pinned] A0 (A0,"169389dd3061676c6dc126d0287cebb86ba3f1e60ea0feec40a04682daa00bbb") A3 EW (λ_ h=>by cases h) (by as_aux_lemma=>kernel_rfl) (λ_ h=>by cases h) fnRiverNever_row_tie rfl ⟨rfl,rfl⟩ (by as_aux_lemma=>kernel_rfl) rfl
  (λf fn hf hfn=>by
   obtain rfl:f=7:=C8 ((show Tryz.prog.funcNamed "loop.example/bargeman/laws.FnRiverNever" =I 7 by as_aux_lemma=>kernel_rfl).symm.trans hf) |>.symm;obtain rfl:fn=Tryz.f7:=(C8<|Tryz.func7.symm.trans hfn).symm;exact⟨by as_aux_lemma=>kernel_rfl,λj t ht=>by
    rw[Tryz.params7]at ht;have hm:=HS ht;have hm':t∈[22]:=by simpa using hm
    have DT:([22].all λu=> !Tryz.pinned.checked.prog.wantsStandIn u)=A0:=by as_aux_lemma=>kernel_rfl
    simpa using C0.1 DT t hm'⟩)
  (by as_aux_lemma=>kernel_rfl)
#print axioms card_holds
end Go.Proofs.YtplahhbealfpcaaGreatDoor.fnRiverNever
end
