/- The program's KeeperTwice answers as the reference's KeeperTwice at every argument; no condition beyond the given statement's own. -/
import Derived.Test.YtimdnaklfelapaaGreatDoorCards
import Derived.Test.YtimdnaklfelapaaGreatDoorTie
import Derived.ProofKit
import Derived.OpenShut
import Derived.LaidMore
import Derived.Lay
import Derived.SevenTiedAt
import Derived.Stop.Joined
import Derived.ChangeOld
import Derived.SizedLaws
import Derived.Carry
import Derived.Test.YtimdnaklfelapaaGreatDoorQTwiceA
set_option linter.unusedVariables false
set_option linter.unusedSimpArgs false
set_option linter.defProp false
open Array renaming mem_of_getElem?->awz
open Bool renaming and_eq_true->auF
open Go.ChangeSpec renaming witness_shaped->awn
open Go.Claim7 renaming holds_tied_plain_at->awk
open Go.DataW renaming TrodAll->axk,trod_lt->aw5
open Go.Func renaming isWrapper->axb
open Go.MakeChecks renaming laidMetH_plain->awc
open Go.OpenClaim renaming holds_of_wide->aws
open Go.OpenSpec renaming ofChange->awx
open Go.Value renaming okWide->aw2
open Go.World renaming laidAll->axj,laidAll_os->awT,shaped_of_ZipB->awB
open List renaming all_eq_true->avn
open Option.some renaming inj->avD
open Go.Lit renaming int->ayX
noncomputable section
namespace Go.Proofs.YtimdnaklfelapaaGreatDoor.fnKeeperTwice
open Go.ChangeShapes Go.WideShapes Go.ChangeAt Go.RowKit Go.VS
set_option linter.unusedVariables false
theorem own:ownKnob Tryz.prog.godebug=none:=by kernel_rfl
theorem xn:laidOutB Tryz.prog=true:=by kernel_rfl
theorem tC{xs:List Int}(h:QZ (.fz .u8) xs):BOk xs:=by
 intro n hn;have h1:(ayX .u8 n).wf=true:=h.2 n hn;exact bounds_u8 h1
abbrev laid:=Rows.fnKeeperTwiceRow.laid
theorem hY(x:LT (.fz .u8))(hw:QZ (.fz .u8) x):fp (x,())=some ((true,()),()):=akf (tC hw)
set_option maxRecDepth 100000 in
theorem qh (os:Os) (started:os.Started) (H:Type) (enc:TypeId×Value->H):
  ReturnsInHanded {} Tryz.checked os 8 .any (λ w args=>(Rows.fnKeeperTwiceSpec.pre enc Tryz.prog Tryz.f8 Rows.fnKeeperTwiceRow.domain false w args/\laidMetH Tryz.prog laid w)/\sizedMet enc Tryz.prog Tryz.f8 (awx Rows.fnKeeperTwiceSpec) false w args)
   (Rows.fnKeeperTwiceSpec.post enc Tryz.prog Tryz.f8 false true false false):=by
 refine kI (C:=Tryz.checked) (X:=λ w _=>laidMetH Tryz.prog laid w) (λ _ _ _ hh h=>h.of_heap hh) own started (by kernel_rfl) Tryz.func8
  (awn (enc:=enc) (C:=Tryz.checked) (os:=os) (X:=λ w _=>laidMetH Tryz.prog laid w) false (axj Tryz.prog os laid) #[.slice none 0 0] 8 (awT _ _ _)
   (awB (by kernel_rfl) (by kernel_rfl)) (by kernel_rfl) (by kernel_rfl) (by kernel_rfl)
   (by rw[awc _ _ _ (by kernel_rfl)];exact laidMet_laidAll _ (by kernel_rfl) (by kernel_rfl))) ?_
 intro W args b0 ds gs before hsh aof hW hL;have aog:∀(j:Nat) t v,Tryz.f8.params[j]? =some t->args[j]? =some v->aw2 Tryz.prog W .any b0 t v:=aof;have hW':=hW;obtain⟨p,q,hA0,hV,rfl,_,_⟩:=hW;have hA:axk enc Tryz.prog W 0 (λ _=>true) true Tryz.f8.params.toList args.toList ds p:=hA0;rw[Tryz.params8]at hA aog;obtain⟨v0,vs0,d0,ds0,p0,q0,an0,rfl,rfl,h0,r0⟩:=trodAll_cons hA;obtain⟨rfl,rfl,rfl⟩:=trodAll_nil r0;obtain rfl:args= #[v0]:=by cases args;simp_all
 obtain⟨rfl,rfl⟩:=trodVars_none hV;have lt0:∀x∈p0,x.block<W.heap.size:=by obtain⟨m,hm⟩:=h0;exact aw5 m _ _ _ hm
 obtain⟨x,hx,aor⟩:=kZ (h:= .fz .u8) (c:= .sl .u8) rfl (by kernel_rfl) Tryz.underlying22 (aog 0 22 v0 rfl rfl) h0;have an8:=qJ (f:=8) (ps:=[.fz .u8]) (g:=fp) AU.1 (q:=()) (hY x hx) (w:=W) (args:=[v0]) (λ M e hM=>⟨v0,[],[],[],rfl,rfl,aor M e hM,rfl,rfl⟩) (nB hsh (by kernel_rfl) hL (by kernel_rfl) (λ _=>⟨by kernel_rfl,by kernel_rfl⟩));refine an8.mono λ e W' ⟨he,bel⟩=> ?_;subst he;exact⟨_,rfl,_,_,_,[],_,[],hW',trodAll_mk1 (shut_bool Tryz.underlying4 _),(trodAll_cons_mk (Below.trod xn (by kernel_rfl) (of_decide_eq_true (by kernel_rfl)) h0 bel lt0) trodAll_mk0),rfl,bel.frame _,λ h=>by cases h⟩
end Go.Proofs.YtimdnaklfelapaaGreatDoor.fnKeeperTwice
namespace Go.Proofs.YtimdnaklfelapaaGreatDoor.fnKeeperTwice
open Go.ChangeShapes Go.WideShapes Go.ChangeAt Go.RowKit
set_option linter.unusedVariables false
set_option maxHeartbeats 8000000 in
theorem closed:joinedFacts Tryz.prog 8 Tryz.f8 Rows.fnKeeperTwiceSpec Rows.fnKeeperTwiceRow=true:=by
 unfold joinedFacts;simp only[auF];refine⟨⟨⟨⟨⟨⟨⟨⟨⟨⟨⟨⟨⟨⟨⟨⟨⟨⟨⟨⟨⟨⟨⟨⟨⟨⟨⟨⟨⟨⟨⟨?_, ?_⟩, ?_⟩, ?_⟩, ?_⟩, ?_⟩, ?_⟩, ?_⟩, ?_⟩, ?_⟩, ?_⟩, ?_⟩, ?_⟩, ?_⟩, ?_⟩, ?_⟩, ?_⟩, ?_⟩, ?_⟩, ?_⟩, ?_⟩, ?_⟩, ?_⟩, ?_⟩, ?_⟩, ?_⟩, ?_⟩, ?_⟩, ?_⟩, ?_⟩, ?_⟩, ?_⟩
 all_goals (as_aux_lemma=>kernel_rfl)
end Go.Proofs.YtimdnaklfelapaaGreatDoor.fnKeeperTwice
namespace Go.Proofs.YtimdnaklfelapaaGreatDoor.fnKeeperTwice
open Go.ChangeShapes Go.WideShapes Go.ChangeAt Go.RowKit
set_option linter.unusedVariables false
theorem Kh:Rows.FnKeeperTwiceSaid:=
 aws 8 Tryz.f8 rfl rfl rfl rfl rfl rfl rfl ⟨rfl,rfl,rfl,rfl,rfl⟩ rfl rfl rfl rfl rfl (by as_aux_lemma=>kernel_rfl) Tryz.func8 closed
  (of_decide_eq_true (by as_aux_lemma=>kernel_rfl)) (by unfold axb;first|(rw[if_pos (by decide+kernel)];kernel_rfl)|(rw[if_neg (by decide+kernel)];exact⟨rfl,rfl⟩))
  (λ os started H enc _=>qh os started H enc)
theorem card_holds:Rows.FnKeeperTwiceCardSaid:=
 awk .later [] [.data,.data,.data,.data,.pinned] true (true,"e99bded35355c675ef9adc1c04b3c14fe4211424572413b124ad6e4381abfcb4") false Kh (λ _ h=>by cases h) (by as_aux_lemma=>kernel_rfl) (λ _ h=>by cases h) fnKeeperTwice_row_tie rfl ⟨rfl,rfl⟩ (by as_aux_lemma=>kernel_rfl) rfl
  (λ f fn hf hfn=>by
   obtain rfl:f=8:=avD ((show Tryz.prog.funcNamed "loop.example/bargeman/laws.FnKeeperTwice" =some 8 by as_aux_lemma=>kernel_rfl).symm.trans hf) |>.symm;obtain rfl:fn=Tryz.f8:=(avD (Tryz.func8.symm.trans hfn)).symm;exact⟨by as_aux_lemma=>kernel_rfl,λ j t ht=>by
    rw[Tryz.params8]at ht;have hm:=awz ht;have hm':t∈[22]:=by simpa using hm
    have aom:([22].all λ u=> !Tryz.pinned.checked.prog.wantsStandIn u)=true:=by as_aux_lemma=>kernel_rfl
    simpa using avn.1 aom t hm'⟩)
  (by as_aux_lemma=>kernel_rfl)
#print axioms card_holds
end Go.Proofs.YtimdnaklfelapaaGreatDoor.fnKeeperTwice
end
