/- The program's KeeperWhole answers as the reference's KeeperWhole at every world; no condition beyond the given statement's own. -/
import Derived.Test.YtimdnaklfelapaaGreatDoorCards
import Derived.Test.YtimdnaklfelapaaGreatDoorTie
import Derived.ProofKit
import Derived.OpenShut
import Derived.LaidMore
import Derived.Lay
import Derived.SevenTiedAt
import Derived.Stop.Joined
import Derived.ChangeOld
import Derived.SizedLaws
import Derived.Carry
import Derived.Test.YtimdnaklfelapaaGreatDoorQAT
set_option linter.unusedVariables false
set_option linter.unusedSimpArgs false
set_option linter.defProp false
open Bool renaming and_eq_true→aqt
open Go.Lit renaming int→auF
open Go.MakeChecks renaming laidMetH_plain→auj
open Go.OpenSpec renaming ofChange→aug
open Go.Value renaming okWide→au6
open List renaming all_eq_true→arp
open Option.some renaming inj→asb
noncomputable section
namespace Go.Proofs.YtimdnaklfelapaaGreatDoor.fnKeeperWhole
open Go.ChangeShapes Go.WideShapes Go.ChangeAt Go.RowKit Go.VS
set_option linter.unusedVariables false
theorem own:ownKnob Tryz.prog.godebug=none:=by kernel_rfl
theorem abp:laidOutB Tryz.prog=true:=by kernel_rfl
abbrev laid:=Rows.fnKeeperWholeRow.laid
theorem Zk{xs:List Int}(h:aeh (.fz .u8) xs):BOk xs:=by
 intro n hn;have h1:(auF .u8 n).wf=true:=h.2 n hn;exact bounds_u8 h1
theorem ur(x:LTs [.fz .u8,.fz .u8])(h1:aeh (.fz .u8) x.1)(h2:aeh (.fz .u8) x.2.1):eh x=some ((true,()),()):=agz (Zk h1) (Zk h2)
set_option maxRecDepth 100000 in
theorem ai2 (os:Os) (started:os.Started) (H:Type) (enc:TypeId×Value→H):
  ReturnsInHanded {} Tryz.checked os 7 .any (fun w args=>(Rows.fnKeeperWholeSpec.pre enc Tryz.prog Tryz.f7 Rows.fnKeeperWholeRow.domain false w args∧laidMetH Tryz.prog laid w)∧sizedMet enc Tryz.prog Tryz.f7 (aug Rows.fnKeeperWholeSpec) false w args)
   (Rows.fnKeeperWholeSpec.post enc Tryz.prog Tryz.f7 false true false false):=by
 refine YC (C:=Tryz.checked) (X:=fun w _=>laidMetH Tryz.prog laid w) (fun _ _ _ hh h=>h.of_heap hh) own started (by kernel_rfl) Tryz.func7
  (ChangeSpec.witness_shaped (enc:=enc) (C:=Tryz.checked) (os:=os) (X:=fun w _=>laidMetH Tryz.prog laid w) false (World.laidAll Tryz.prog os laid) #[.slice none 0 0,.slice none 0 0] 8 (World.laidAll_os _ _ _)
   (World.shaped_of_ZipB (by kernel_rfl) (by kernel_rfl)) (by kernel_rfl) (by kernel_rfl) (by kernel_rfl)
   (by rw[auj _ _ _ (by kernel_rfl)];exact laidMet_laidAll _ (by kernel_rfl) (by kernel_rfl))) ?_
 intro W args b0 ds gs before hsh an7 hW hL;have al4: ∀ (j:Nat) t v,Tryz.f7.params[j]? =some t→args[j]? =some v→au6 Tryz.prog W .any b0 t v:=an7;have hW':=hW;obtain⟨p,q,hA0,hV,rfl,_,_⟩:=hW;have hA:DataW.TrodAll enc Tryz.prog W 0 (fun _=>true) true Tryz.f7.params.toList args.toList ds p:=hA0;rw[Tryz.params7]at hA al4;obtain⟨v0,vs0,d0,ds0,p0,q0,akA,rfl,rfl,h0,r0⟩:=trodAll_cons hA;obtain⟨v1,vs1,d1,ds1,p1,q1,ao2,rfl,rfl,h1,r1⟩:=trodAll_cons r0;obtain⟨rfl,rfl,rfl⟩:=trodAll_nil r1;obtain rfl:args= #[v0,v1]:=by cases args;simp_all
 obtain⟨rfl,rfl⟩:=trodVars_none hV;have lt0: ∀ x∈p0,x.block < W.heap.size:=by obtain⟨m,hm⟩:=h0;exact DataW.trod_lt m _ _ _ hm
 have lt1: ∀ x∈p1,x.block < W.heap.size:=by obtain⟨m,hm⟩:=h1;exact DataW.trod_lt m _ _ _ hm
 obtain⟨x,hx,alG⟩:=Qb (h:= .fz .u8) (c:= .sl .u8) rfl (by kernel_rfl) Tryz.underlying22 (al4 0 22 v0 rfl rfl) h0;obtain⟨y,hy,aoc⟩:=Qb (h:= .fz .u8) (c:= .sl .u8) rfl (by kernel_rfl) Tryz.underlying22 (al4 1 22 v1 rfl rfl) h1;have ami:=ac7 (f:=7) (ps:=[.fz .u8,.fz .u8]) (g:=eh) yg.1 (q:=()) (ur (x,y,()) hx hy) (w:=W) (args:=[v0,v1]) (fun M e hM=>⟨v0,[v1],[],[],rfl,rfl,alG M e hM,v1,[],[],[],rfl,rfl,aoc M e hM,rfl,rfl⟩) (aax hsh (by kernel_rfl) hL (by kernel_rfl) (fun _=>⟨by kernel_rfl,by kernel_rfl⟩));refine ami.mono fun e W' ⟨he,bel⟩=> ?_;subst he;exact⟨_,rfl,_,_,_,[],_,[],hW',trodAll_mk1 (shut_bool Tryz.underlying4 _),(trodAll_cons_mk (Below.trod abp (by kernel_rfl) (of_decide_eq_true (by kernel_rfl)) h0 bel lt0) (trodAll_cons_mk (Below.trod abp (by kernel_rfl) (of_decide_eq_true (by kernel_rfl)) h1 bel lt1) trodAll_mk0)),rfl,bel.frame _,fun h=>by cases h⟩
end Go.Proofs.YtimdnaklfelapaaGreatDoor.fnKeeperWhole
namespace Go.Proofs.YtimdnaklfelapaaGreatDoor.fnKeeperWhole
open Go.ChangeShapes Go.WideShapes Go.ChangeAt Go.RowKit
set_option linter.unusedVariables false
set_option maxHeartbeats 8000000 in
theorem closed:joinedFacts Tryz.prog 7 Tryz.f7 Rows.fnKeeperWholeSpec Rows.fnKeeperWholeRow=true:=by
 unfold joinedFacts;simp only[aqt];refine⟨⟨⟨⟨⟨⟨⟨⟨⟨⟨⟨⟨⟨⟨⟨⟨⟨⟨⟨⟨⟨⟨⟨⟨⟨⟨⟨⟨⟨⟨⟨?_, ?_⟩, ?_⟩, ?_⟩, ?_⟩, ?_⟩, ?_⟩, ?_⟩, ?_⟩, ?_⟩, ?_⟩, ?_⟩, ?_⟩, ?_⟩, ?_⟩, ?_⟩, ?_⟩, ?_⟩, ?_⟩, ?_⟩, ?_⟩, ?_⟩, ?_⟩, ?_⟩, ?_⟩, ?_⟩, ?_⟩, ?_⟩, ?_⟩, ?_⟩, ?_⟩, ?_⟩
 all_goals (as_aux_lemma=>kernel_rfl)
end Go.Proofs.YtimdnaklfelapaaGreatDoor.fnKeeperWhole
namespace Go.Proofs.YtimdnaklfelapaaGreatDoor.fnKeeperWhole
open Go.ChangeShapes Go.WideShapes Go.ChangeAt Go.RowKit
set_option linter.unusedVariables false
theorem ajI:Rows.FnKeeperWholeSaid:=
 OpenClaim.holds_of_wide 7 Tryz.f7 rfl rfl rfl rfl rfl rfl rfl ⟨rfl,rfl,rfl,rfl,rfl⟩ rfl rfl rfl rfl rfl (by as_aux_lemma=>kernel_rfl) Tryz.func7 closed
  (of_decide_eq_true (by as_aux_lemma=>kernel_rfl)) (by unfold Func.isWrapper;first | (rw[if_pos (by decide+kernel)];kernel_rfl) | (rw[if_neg (by decide+kernel)];exact⟨rfl,rfl⟩))
  (fun os started H enc _=>ai2 os started H enc)
theorem card_holds:Rows.FnKeeperWholeCardSaid:=
 Claim7.holds_tied_plain_at .later [] [.data,.data,.data,.data,.pinned] true (true,"e99bded35355c675ef9adc1c04b3c14fe4211424572413b124ad6e4381abfcb4") false ajI (fun _ h=>by cases h) (by as_aux_lemma=>kernel_rfl) (fun _ h=>by cases h) fnKeeperWhole_row_tie rfl ⟨rfl,rfl⟩ (by as_aux_lemma=>kernel_rfl) rfl
  (fun f fn hf hfn=>by
   obtain rfl:f=7:=asb ((show Tryz.prog.funcNamed "loop.example/bargeman/laws.FnKeeperWhole" =some 7 by as_aux_lemma=>kernel_rfl).symm.trans hf) |>.symm;obtain rfl:fn=Tryz.f7:=(asb (Tryz.func7.symm.trans hfn)).symm;exact⟨by as_aux_lemma=>kernel_rfl,fun j t ht=>by
    rw[Tryz.params7]at ht;have hm:=Array.mem_of_getElem? ht;have hm':t∈[22]:=by simpa using hm
    have alF:([22].all fun u=> !Tryz.pinned.checked.prog.wantsStandIn u)=true:=by as_aux_lemma=>kernel_rfl
    simpa using arp.1 alF t hm'⟩)
  (by as_aux_lemma=>kernel_rfl)
#print axioms card_holds
end Go.Proofs.YtimdnaklfelapaaGreatDoor.fnKeeperWhole
end
