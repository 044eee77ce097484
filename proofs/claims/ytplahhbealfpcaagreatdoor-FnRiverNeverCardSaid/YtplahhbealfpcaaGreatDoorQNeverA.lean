/- Part 22. -/
import Derived.Test.YtplahhbealfpcaaGreatDoorQAU
set_option linter.unusedVariables false
set_option linter.unusedSimpArgs false
set_option linter.defProp false
open Bool renaming and_eq_true->AE,false->A3,false_ne_true->Cg,not_eq_true'->CL,true->A0
open Decidable renaming decide->A1
open Int renaming le_refl->E7,toNat_natCast->Bb
open List renaming append_assoc->Bw,getD_eq_getElem?_getD->B9,getElem?_eq_getElem->Av,getElem?_set->NB,getElem_mem->CJ,getElem_of_mem->DG,length_append->Ar,mem_append->BM,mem_cons->Bj
open Nat renaming le_refl->As,lt_or_ge->HU,not_lt_zero->kv
open Option renaming none->U,some->I
section
set_option linter.all false
noncomputable section
namespace Go.VS
open Go Go.Proofs
set_option maxRecDepth 100000
def aol:Cx:=cX [] [] []
def aAH:OKC Tryz.prog aol AF:=okc mixed<|AJ
def gT(x:List A6×Y4×Int×A2):Rnd (List A6×Y4×Int×A2) (Bool×A2) (A2):=if A1 (x.2.2.1<(x.1.length:Int)) then if inb x.2.2.1 x.1.length then if MF ((rd (dfl .note) x.1 x.2.2.1).fr) ((rd (dfl .note) x.1 x.2.2.1).nu) ((rd (dfl .note) x.1 x.2.2.1).to) ((rd (dfl .note) x.1 x.2.2.1).un) ((rd (dfl .note) x.1 x.2.2.1).tx) x.2.1.1 x.2.1.2.1 x.2.1.2.2.1 x.2.1.2.2.2.1 x.2.1.2.2.2.2.1 then I (.inr<|.inl (A0,())) else I (.inl (x.1,x.2.1,(w64<|x.2.2.1+1),())) else U else I (.inr<|.inr ())
def uZ:=AR gT
def xg:Loop:=⟨[(0,.sl .note),(3,Z5),(5,.int .i64)],[],0,[(4,.bool)],uZ⟩
def anz:LF Tryz.f17 [] [1,0,1,0,0] xg:=sq (v:= .nil) aAH (b:=gT) kN
def Pu(x:List A6×Y4×A2):Option ((Bool×A2)×A2):=(AM (uZ (x.1,x.2.1,0,())) (λa=>I (a,())) λa=>I ((A3,()),()))
def iO:Ent:=(17,U,⟨[.fz .note,Z6],[.bool],Pu⟩)
def uY:SQ Tryz.prog iO:=sk (v:=t1<|.two (t1<|.one<|.loop xg) .nil) (fn:=Tryz.f17) aAH<|kC anz kN
def aec:Cx:=cX [MR,Mc,Md,MX,Im,iO] [] [(25,26),(90,94)]
def pa:OKC Tryz.prog aec AF:=okc mixed<|gC Np<|gC Nr<|gC Ns<|gC Nw<|gC JV<|gC uY<|AJ
def aq(x:Y2×Int×A2):Rnd (Y2×Int×A2) (Bool×A2) (A2):=if A1 (x.2.1<(x.1.2.2.2.2.1.length:Int)) then if inb x.2.1 x.1.2.2.2.2.1.length then let a:=(rd (dfl .note) x.1.2.2.2.2.1 x.2.1).fr;let c:=(rd (dfl .note) x.1.2.2.2.2.1 x.2.1).nu;let d:=(rd (dfl .note) x.1.2.2.2.2.1 x.2.1).to;let b:=(rd (dfl .note) x.1.2.2.2.2.1 x.2.1).un;let e:=(rd (dfl .note) x.1.2.2.2.2.1 x.2.1).tx;if inb a x.1.2.1.length then(H5 (((rd (dfl .AQ) x.1.2.1 a).id,(rd (dfl .AQ) x.1.2.1 a).up,(rd (dfl .AQ) x.1.2.1 a).log,(rd (dfl .AQ) x.1.2.1 a).fo,(rd (dfl .AQ) x.1.2.1 a).AN,()),())).bind λf=>(Pu (f.1.1.2.2.2.1,(a,c,d,b,e,()),())).bind λg=>if !g.1.1 then(Pu (f.1.1.2.2.2.2.2.1,(a,c,d,b,e,()),())).bind λh=>if !h.1.1 then(Pu (x.1.2.2.2.2.2.1,(a,c,d,b,e,()),())).bind λi=>if(!i.1.1)&&(A1<|f.1.1.2.1<b) then I (.inr<|.inl (A3,())) else I (.inl (x.1,(w64<|x.2.1+1),())) else I (.inl (x.1,(w64<|x.2.1+1),())) else I (.inl (x.1,(w64<|x.2.1+1),())) else U else U else I (.inr<|.inr ())
def oV:=AR aq
def ack:Loop:=⟨[(7,Z2),(8,.int .i64)],[],2,[(2,.bool)],oV⟩
def aeN:LF Tryz.f7 [] [1,1,1,1,1,1,1,1,0,1,0,0] ack:=sq (v:= .nil) pa (b:=aq) kN
def p7(x:List Event×List Event×Int×A2):Rnd (List Event×List Event×Int×A2) (A2) (List Event×A2):=if(A1<|x.2.2.1<(x.1.length:Int))&&(A1<|x.2.2.1<1000) then if inb x.2.2.1 x.1.length then if !decide ((rd (dfl .BK) x.1 x.2.2.1).ki=9) then if inb x.2.2.1 x.1.length then if Ac (x.2.1.length+([(rd (dfl .BK) x.1 x.2.2.1)]:List Event).length) then I (.inl (x.1,(x.2.1++([(rd (dfl .BK) x.1 x.2.2.1)]:List Event)),(w64<|x.2.2.1+1),())) else U else U else I (.inl (x.1,x.2.1,(w64<|x.2.2.1+1),())) else U else I (.inr<|.inr (x.2.1,()))
def acQ:=AR p7
def acm:Loop:=⟨[(3,.row 46 .BK),(4,.row 46 .BK),(5,.int .i64)],[(4,.row 46 .BK)],0,[],acQ⟩
def aeR:LF Tryz.f7 [] [1,1,1,1,0,1,0,0] acm:=sq (v:= .nil) pa (b:=p7) kN
def UO(x:List Int×A2):Option ((Bool×A2)×A2):=if A1 (1048576<(x.1.length:Int)) then I ((A0,()),()) else(JU x).bind λd=>(AM (acQ (d.1.1,([(Event.mk 10 0 0 0 0 0 0 0 0 noB),(Event.mk 10 1 0 0 0 0 0 0 0 noB),(Event.mk 10 2 0 0 0 0 0 0 0 noB)]:List Event),0,())) (λ_=>U) λa=>(KJ a).bind λe=>(II a).bind λb=>(It (b.1.1,e.1)).bind λf=>if !f.1.1 then I ((A3,()),()) else(AM (oV (b.1.1,0,())) (λc=>I (c,())) λc=>I ((A0,()),())))
def afL:Ent:=(7,U,⟨[.fz .u8],[.bool],UO⟩)
def adf:SQ Tryz.prog afL:=sk (v:=t1<|t1<|t1<|t1<|.two (t1<|.one<|.loop acm)<|t1<|t1<|t1<|.two (t1<|.one<|.loop ack) .nil) (fn:=Tryz.f7) pa<|kC aeR<|kC aeN kN
end Go.VS
end
end
section
set_option linter.all false
noncomputable section
namespace Go.VS
open Go
def YO{l:List A6}{n:A6}(hl:l.length<=1000):Tot (Pu (l,(n.fr,n.nu,n.to,n.un,n.tx,()),())) λr=>r.1.1=A0↔n∈l:=by
 unfold Pu;refine Tot.sum (P:=λy=>y.1=A0/\n∈l) (Q:=λ_=>n ∉ l) ?_ (λy hy=>Tot.ret ⟨λ_=>hy.2,λ_=>hy.1⟩) (λy hy=>Tot.ret ⟨(λh=>by cases h),λh=>absurd h hy⟩);refine Tot.loop (λi s=>s=(l,(n.fr,n.nu,n.to,n.un,n.tx,()),(i:Int),())/\ ∀j,j<i->nA l j≠n) _ l.length (λi s hi hs=> ?_) ⟨rfl,λj hj=>absurd hj<|kv _⟩;obtain⟨rfl,hs⟩:=hs;unfold gT;refine Tot.ite (λhc=> ?_) (λhc=> ?_)
 .have hc:(i:Int)<(l.length:Int):=BX hc;have hi':i<l.length:=J
  refine Tot.pos (AP hi') (Tot.ite (λhe=>Tot.ret ⟨rfl, ?_⟩) λhe=>Tot.ret ⟨hi',by rw[show w64 ((i:Int)+1)=_ from Ka rfl J],λj hj=> ?_⟩)
  .have he:MF (nA l i).fr (nA l i).nu (nA l i).to (nA l i).un (nA l i).tx n.fr n.nu n.to n.un n.tx=A0:=he;unfold MF at he;simp only[AE,decide_eq_true_eq]at he;have:nA l i=n:=by
    cases hN:nA l i;cases n;rw[hN]at he;simp only at he;obtain⟨rfl,rfl,rfl,rfl,rfl,_⟩:=he;rfl
   rw[← this];exact Hx hi'
  .rcases HU j i with h|h
   .exact hs j h
   .have:j=i:=J
    subst this;intro e;have he:MF (nA l j).fr (nA l j).nu (nA l j).to (nA l j).un (nA l j).tx n.fr n.nu n.to n.un n.tx=A3:=he;rw[e]at he;unfold MF at he;simp at he
 .have hc:¬(i:Int)<(l.length:Int):=KC hc;refine Tot.ret λhn=> ?_;obtain⟨j,hj,e⟩:=DG hn;refine hs j J ?_;rw[← e,nA,B9,Av hj];rfl
def aCe{n:A6}(h:B4 n=A0):(0<=n.fr/\n.fr<=3)/\(0<=n.to/\n.to<=3):=by
 unfold B4 at h;simp only[AE]at h;exact⟨Af.1 h.1,Af.1 h.2.1⟩
end Go.VS
end
end
section
set_option linter.all false
noncomputable section
namespace Go.VS
open Go
def apx{l:List Event}{w:AX}(h:DW w=A0)(p:Nd w)(hl:∀e∈l,e.ki≠9):DW (Ci w l)=A0/\Nd (Ci w l):=
 SW (P:=Nd) (Q:=λe=>e.ki≠9) (λw e h p q d=>p.sim (Fe h).1 q d) l h p hl
def aa6{l:List Event}{i:Nat}(h:i<l.length):evA l i∈l:=by
 rw[mY h];exact CJ h
def jX{w:AX}(h:DW w=A0)(ht:w.ti<99999){e:Event}(h1:e.ki=10)(h0:0<=e.at_)(h3:e.at_<3):
  DW (GQ w e)=A0/\(GQ w e).Ab=w.Ab/\(GQ w e).ti<=w.ti+1/\ ∀i:Nat,i<3->bA (GQ w e).B2 i=if(i:Int)=e.at_ then A3 else bA w.B2 i:=by
 obtain⟨ok,t0,t1⟩:=Fe h;have ll:=ok.ll;have hd:doM w e=ER w e:=by
  unfold doM;rw[AD J,A8<|.inr h1]
 have hb:A1 (e.ki=9)=A3:=BR J;rcases aAy w e with⟨c,_⟩|⟨_,c⟩|⟨_,c1,c2,c⟩
 .rw[h]at c;cases c
 .unfold GQ;rw[c];refine⟨h,rfl,by show w.ti<=w.ti+1;omega,λi hi=> ?_⟩;split
  .rename_i e1;have:I6 w e=if(doM w e).2 then(CC w e,A0) else(w,A3):=by
    unfold I6;rw[A8 h,AD (by rw[BR<|show ¬99999<=w.ti by omega];exact Cg)]
   rw[c]at this;have:(doM w e).2=A3:=by
    rcases tf (doM w e).2 with d|d
    .rw[d,A8 rfl]at this;exact absurd (congrArg Prod.snd this) Cg
    .exact d
   rw[hd]at this;unfold ER at this;rw[hb]at this;split at this
   .cases this
   .rename_i hn;rw[AE,CL,decide_eq_false_iff_not,Af]at hn;have:bA w.B2 e.at_.toNat=A3:=by
     rcases tf (bA w.B2 e.at_.toNat) with d|d
     .exact absurd ⟨J,by rw[d];exact λh=>by cases h⟩ hn
     .exact d
    rw[← e1,Bb]at this;exact this
  .rfl
 .unfold GQ;rw[c];refine⟨aCt h c1 c2, ?_, ?_,λi hi=> ?_⟩
  .show(CC w e).Ab=_;rw[TB c2,hd];unfold ER;split<;>rfl
  .show(CC w e).ti<=_;rw[mE c2,AZ J J];exact E7 _
  .show bA (CC w e).B2 i=_;rw[TB c2,hd];show bA (ER w e).1.B2 i=_;rw[hd]at c2;unfold ER at c2 ⊢;split at c2
   .rename_i hc;rw[A8 hc];show bA (w.B2.set e.at_.toNat<|A1<|e.ki=9) i=_;rw[hb];unfold bA;rw[B9,NB,B9];by_cases e1:e.at_.toNat=i
    .rw[A8 e1,A8 J,A8 J];rfl
    .rw[AD e1,AD J]
   .cases c2
def evC(i:Int):Event:=⟨10,i,0,0,0,0,0,0,0,noB⟩
def aas:DW (Ci rv0 [evC 0,evC 1,evC 2])=A0/\Nd (Ci rv0 [evC 0,evC 1,evC 2]):=by
 obtain⟨a1,a2,a3,a4⟩:=jX OZ (by decide) (e:=evC 0) rfl (by decide) (by decide);have t0:rv0.ti=0:=rfl;obtain⟨b1,b2,b3,b4⟩:=jX a1 J (e:=evC 1) rfl (by decide) (by decide);obtain⟨c1,c2,c3,c4⟩:=jX b1 J (e:=evC 2) rfl (by decide) (by decide);refine⟨c1,(XP OZ R3 (l:=[evC 0,evC 1,evC 2])).2,λi hi=> ?_,λn hn=> ?_⟩
 .show bA (GQ (GQ (GQ rv0<|evC 0)<|evC 1)<|evC 2).B2 i=A3;rw[c4 i hi];split
  .rfl
  .rename_i h2;rw[b4 i hi];split
   .rfl
   .rename_i h1;rw[a4 i hi,A8];have h1:¬(i:Int)=1:=h1;have h2:¬(i:Int)=2:=h2;show(i:Int)=0;omega
 .have hn:n∈(GQ (GQ (GQ rv0<|evC 0)<|evC 1)<|evC 2).Ab:=hn;rw[c2,b2,a2]at hn;cases hn
def aqz{w:AX}(ok:BA w)(h:∀n∈w.Ab,PC w n):Tot (oV (tR w,0,())) (Rn (λ_=>False) λ_=>True):=by
 have kl:=ok.kl;have sl:=ok.sl;have gl:=ok.gl;refine Tot.loop (b:=aq) (λi s=>s=(tR w,(i:Int),())) _ w.Ab.length (λi s hi hs=> ?_) rfl;subst hs;unfold aq;refine Tot.ite (λhc=> ?_) (λhc=>Tot.ret trivial);have hc:(i:Int)<(w.Ab.length:Int):=BX hc;have hi':i<w.Ab.length:=J
 have hm:=Hx hi';have hr:=(aCe<|ok.s _ hm).1;have hh:=h _ hm;refine Tot.pos (AP hi') ?_;simp only[Cc];have hlt:(nA w.Ab i).fr.toNat<w.AK.length:=J
 have ec:((nA w.Ab i).fr.toNat:Int)=(nA w.Ab i).fr:=J
 have ew:w64 ((i:Int)+1)=((i+1:Nat):Int):=Ka rfl J;have kok:=(ok.k (nA w.Ab i).fr.toNat J).1;have kf:=CY (CI kok).kok;have f1:=kf.hl;have f2:=kf.il;have go:Tot (I (Sum.inl (tR w,w64<|(i:Int)+1,())):Rnd (YR×Int×A2) (Bool×A2) A2) (Rn (λs'=>i<w.Ab.length/\s'=(tR w,((i+1:Nat):Int),()))<|Rn (λ_=>False) λ_=>True):=Tot.ret ⟨hi',by rw[ew]⟩;have hin:inb (nA w.Ab i).fr w.AK.length=A0:=FP hr.1 J;refine Tot.pos hin ?_;have ek: @rd AA (dfl .AQ) w.AK (nA w.Ab i).fr=kA w.AK (nA w.Ab i).fr.toNat:=rfl;simp only[ek];refine Tot.bind (Tot.eq<|Il kok) λr68 h68=> ?_;subst h68;refine Tot.bind (YO (l:=(stT<|kA w.AK (nA w.Ab i).fr.toNat).held) (n:=nA w.Ab i) J) λr69 h69=>Tot.ite (λn1=> ?_) (λ_=>go);refine Tot.bind (YO (l:=(stT<|kA w.AK (nA w.Ab i).fr.toNat).inbox) (n:=nA w.Ab i) J) λr70 h70=>Tot.ite (λn2=> ?_) (λ_=>go);refine Tot.bind (YO (l:=w.got) (n:=nA w.Ab i) J) λr71 h71=>Tot.ite (λn3=> ?_) (λ_=>go);rw[AE,CL]at n3;rw[CL]at n1 n2;have n4:(stT<|kA w.AK (nA w.Ab i).fr.toNat).ti<(nA w.Ab i).un:=BX n3.2;unfold PC sT at hh;obtain⟨c,_⟩|c|c|c:=hh
 .rw[h69.2 c]at n1;cases n1
 .rw[h70.2 c]at n2;cases n2
 .rw[h71.2 c]at n3;cases n3.1
 .omega
def aw1{l:List Int}(hb:BOk l):UO (l,())=I ((A0,()),()):=by
 obtain⟨ev,hd,hl,ht⟩:=OJ hb;unfold UO;apply Tot.val;refine Tot.ite (λ_=>Tot.ret rfl) (λ_=>Tot.bind (Tot.eq hd) λr1 h1=> ?_);subst h1;refine Tot.sum (P:=λ_=>False) (Q:=λs=>∃M:List Event,s=([evC 0,evC 1,evC 2]++M,())/\(∀e∈M,e∈ev/\e.ki≠9)/\M.length<=1000) ?_ (λ_ h=>h.elim) (λy hy=> ?_)
 .refine Tot.loop (λi s=>∃M:List Event,s=(ev,[evC 0,evC 1,evC 2]++M,(i:Int),())/\(∀e∈M,e∈ev/\e.ki≠9)/\M.length<=i/\i<=1000) _ 1000 (λi s hi hs=> ?_) ⟨[],rfl,λ_ h=>(by cases h),As _,J⟩;obtain⟨M,rfl,hM,hz,azu⟩:=hs;unfold p7;refine Tot.ite (λhc=> ?_) (λhc=>Tot.ret ⟨M,rfl,hM,J⟩);rw[AE,decide_eq_true_eq,decide_eq_true_eq]at hc;obtain⟨hc,hc2⟩:=hc;have hc:(i:Int)<(ev.length:Int):=hc;have hc2:(i:Int)<1000:=hc2;have hi':i<ev.length:=J
  have ew:w64 ((i:Int)+1)=((i+1:Nat):Int):=by rw[AZ J J];rfl
  refine Tot.pos (AP hi') (Tot.ite (λh1=> ?_) λ_=>Tot.ret ⟨J,M,by rw[ew],hM,J,J⟩);refine Tot.pos (AP hi') (Tot.pos (B8 (by show([evC 0,evC 1,evC 2]++M).length+1<=_;rw[Ar];simp;omega))<|Tot.ret ⟨J,M++[evA ev i],by rw[ew,← Bw];rfl, ?_,by rw[Ar];show M.length+1<=_;omega,J⟩);refine Sl hM ⟨aa6 hi', ?_⟩;have h1:(!decide ((evA ev i).ki=9))=A0:=h1;simpa using h1
 .obtain⟨M,rfl,hM,hz⟩:=hy;have ht':∀e∈[evC 0,evC 1,evC 2]++M,e.tx.size<=1048576:=λe he=>by
   rcases BM.1 he with he|he
   .have:e.tx=noB:=by
     simp only[Bj,List.not_mem_nil,or_false]at he;obtain rfl|rfl|rfl:=he<;>rfl
    rw[this];decide
   .exact ht e (hM e he).1
  have hlen:([evC 0,evC 1,evC 2]++M).length<=1003:=by rw[Ar];simp;omega
  refine Tot.bind (Tot.eq<|Nu J ht') λr2 h2=>Tot.bind (Tot.eq<|KK J ht') λr3 h3=> ?_;subst h2 h3;refine Tot.bind (Tot.eq<|OB<|Ml _) λr5 h5=> ?_;subst h5;have hw:=(Fe<|Mn<|[evC 0,evC 1,evC 2]++M).1;have ha:Nd (Ch<|[evC 0,evC 1,evC 2]++M):=by
   unfold Ch;rw[AD J,jl];exact(apx aas.1 aas.2 λe he=>(hM e he).2).2
  exact Tot.neg rfl (Tot.sum (P:=λ_=>False) (Q:=λ_=>True) (aqz hw ha.2.2) (λ_ h=>h.elim) λ_ _=>Tot.ret rfl)
end Go.VS
end
end
