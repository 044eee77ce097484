/- Part 22. -/
import Derived.Test.YtplahhbealfpcaaGreatDoorQAU
set_option linter.unusedVariables false
set_option linter.unusedSimpArgs false
set_option linter.defProp false
open Bool renaming and_self->Du,false->A3,not_true->AB,or_true->Cv,true->A0,true_or->Bo
open Decidable renaming decide->A1
open Option renaming bind_some->A9,none->U,some->I
section
set_option linter.all false
noncomputable section
namespace Go.VS
open Go Go.Proofs
set_option maxRecDepth 100000
def agj:Cx:=cX [MR,Mc,Md,MX,Im] [] [(76,85)]
def bm:OKC Tryz.prog agj AF:=okc mixed<|gC Np<|gC Nr<|gC Ns<|gC Nw<|gC JV<|AJ
def bH(x:Y2×Int×Y3×Int×A2):Rnd (Y2×Int×Y3×Int×A2) (Bool×A2) (Y2×Int×Y3×A2):=if A1 (x.2.2.2.1<(x.2.2.1.2.2.2.2.2.1.length:Int)) then if inb x.2.2.2.1 x.2.2.1.2.2.2.2.2.1.length then if !decide ((rd (dfl .note) x.2.2.1.2.2.2.2.2.1 x.2.2.2.1).to=x.2.1) then I (.inr<|.inl (A3,())) else I (.inl (x.1,x.2.1,x.2.2.1,(w64<|x.2.2.2.1+1),())) else U else I (.inr<|.inr (x.1,x.2.1,x.2.2.1,()))
def aU:=AR bH
def adJ:Loop:=⟨[(5,Z2),(6,.int .i64),(7,Z9),(8,.int .i64)],[(5,Z2),(6,.int .i64),(7,Z9)],2,[(2,.bool)],aU⟩
def afl:LF Tryz.f3 [] [1,1,1,1,1,1,0,1,0,0,1,0,0,1,0,1,0,0] adJ:=sq (v:= .nil) bm (b:=bH) kN
def bG(x:Y2×Int×Y3×Int×A2):Rnd (Y2×Int×Y3×Int×A2) (Bool×A2) (Y2×Int×A2):=if A1 (x.2.2.2.1<(x.2.2.1.2.2.2.1.length:Int)) then if inb x.2.2.2.1 x.2.2.1.2.2.2.1.length then let a:=(rd (dfl .note) x.2.2.1.2.2.2.1 x.2.2.2.1).fr;let azz:=(rd (dfl .note) x.2.2.1.2.2.2.1 x.2.2.2.1).nu;let b:=(rd (dfl .note) x.2.2.1.2.2.2.1 x.2.2.2.1).to;let azy:=(rd (dfl .note) x.2.2.1.2.2.2.1 x.2.2.2.1).un;let RD:=(rd (dfl .note) x.2.2.1.2.2.2.1 x.2.2.2.1).tx;(if A1 (a<=x.2.1) then let c:=((A1<|x.2.1<b)||((A1<|b<x.2.1)&&(A1<|x.2.1<=a)));(if !c then I (.inr<|.inl (A3,())) else I (.inl (x.1,x.2.1,x.2.2.1,(w64<|x.2.2.2.1+1),()))) else let d:=((A1<|b<x.2.1)&&(A1<|x.2.1<=a));(if !d then I (.inr<|.inl (A3,())) else I (.inl (x.1,x.2.1,x.2.2.1,(w64<|x.2.2.2.1+1),())))) else U else I (.inr<|.inr (x.1,x.2.1,()))
def aT:=AR bG
def adI:Loop:=⟨[(5,Z2),(6,.int .i64),(7,Z9),(9,.int .i64)],[(5,Z2),(6,.int .i64)],4,[(2,.bool)],aT⟩
def afj:LF Tryz.f3 [] [1,1,1,1,1,1,0,1,0,0,1,0,0,1,1,1,0,0] adI:=sq (v:= .nil) bm (b:=bG) kN
def Uc(x:Y2×Int×A2):Rnd (Y2×Int×A2) (Bool×A2) (A2):=if A1 (x.2.1<(x.1.2.1.length:Int)) then if inb x.2.1 x.1.2.1.length then(H5 (((rd (dfl .AQ) x.1.2.1 x.2.1).id,(rd (dfl .AQ) x.1.2.1 x.2.1).up,(rd (dfl .AQ) x.1.2.1 x.2.1).log,(rd (dfl .AQ) x.1.2.1 x.2.1).fo,(rd (dfl .AQ) x.1.2.1 x.2.1).AN,()),())).bind λayr=>(AM (aU (x.1,x.2.1,ayr.1.1,0,())) (λKA=>I<|.inr<|.inl KA) λKA=>(AM (aT (KA.1,KA.2.1,KA.2.2.1,0,())) (λEu=>I<|.inr<|.inl Eu) λEu=>I<|.inl (Eu.1,(w64<|Eu.2.1+1),()))) else U else I (.inr<|.inr ())
def aV:=AR Uc
def adK:Loop:=⟨[(5,Z2),(6,.int .i64)],[],0,[(2,.bool)],aV⟩
def afq:LF Tryz.f3 [] [1,1,1,1,1,1,0,1,0,0] adK:=sq (v:=t1<|.two (.one<|t1<|.two (t1<|.one<|.loop adJ)<|t1<|.one<|.loop adI) .nil) bm (b:=Uc)<|kC afl<|kC afj kN
def Us(x:List Int×A2):Option ((Bool×A2)×A2):=if A1 (1048576<(x.1.length:Int)) then I ((A0,()),()) else(JU x).bind λa=>(KJ a.1).bind λc=>(II a.1).bind λb=>(It (b.1.1,c.1)).bind λd=>if !d.1.1 then I ((A3,()),()) else(AM (aV (b.1.1,0,())) (λaD=>I (aD,())) λaD=>I ((A0,()),()))
def ahV:Ent:=(3,U,⟨[.fz .u8],[.bool],Us⟩)
def aeB:SQ Tryz.prog ahV:=sk (v:=t1<|t1<|t1<|t1<|t1<|t1<|.two (t1<|.one<|.loop adK) .nil) (fn:=Tryz.f3) bm<|kC afq kN
end Go.VS
end
end
section
set_option linter.all false
noncomputable section
namespace Go.VS
open Go
def jQ(l:List AA)(i:Nat): @rd AA (dfl .AQ) l (i:Int)=kA l i:=rfl
def OT(n:Nat):A1 ((n:Int)<(n:Int))=A3:=by simp
def awl{w:AX}{i:Int}{st:AG}(hl:st.inbox.length<=6)(h:∀n∈st.inbox,n.to=i):aU (tR w,i,tK st,0,())=I (.inr (tR w,i,tK st,())):=
 C2 (λj=>(tR w,i,tK st,(j:Int),())) st.inbox.length (λj hj=>by
  unfold bH;simp only[B7 hj,AP hj,Cc,A5,h _<|Hx hj,AU,AB,A7,B5 hj (by omega:st.inbox.length<=9223372036854775807)]) (by
  unfold bH;simp only[OT,A7])
def awk{w:AX}{i:Int}{st:AG}(hl:st.held.length<=6)(h:∀n∈st.held,(n.fr<=i/\i<n.to)\/(n.to<i/\i<=n.fr)):aT (tR w,i,tK st,0,())=I (.inr (tR w,i,())):=
 C2 (λj=>(tR w,i,tK st,(j:Int),())) st.held.length (λj hj=>by
  have:=h _<|Hx hj;unfold bG;simp only[B7 hj,AP hj,Cc,A5,B5 hj (by omega:st.held.length<=9223372036854775807)];obtain⟨a,b⟩|⟨a,b⟩:=this
  .simp only[eq_true a,eq_true b,AU,A5,Bo,AB,A7]
  .by_cases c:(nA st.held j).fr<=i
   .simp only[eq_true c,eq_true a,eq_true b,AU,A5,Du,Cv,AB,A7]
   .simp only[eq_false c,eq_true a,eq_true b,AU,Ae,A5,Du,Cv,AB,A7]) (by
  unfold bG;simp only[OT,A7])
def av1{w:AX}(ok:BA w):aV (tR w,0,())=I (.inr ()):=by
 have kl:=ok.kl;refine C2 (b:=Uc) (λi=>(tR w,(i:Int),())) w.AK.length (λi hi=> ?_) (by
  unfold Uc;simp only[OT,A7])
 have hi4:i<4:=J
 have hk:=Og ok hi4;have kf:=CY hk;have id':=Lq ok hi4;unfold Uc;have h1:=Il (ok.k i hi4).1;simp only[B7 hi,AP hi,jQ,A5,h1,A9];have e1:=awl (w:=w) (i:=(i:Int)) kf.il (λn hn=>by rw[(YV hk hn).1,id']);have e2:=awk (w:=w) (i:=(i:Int)) kf.hl (λn hn=>by
  have:=kg hk hn;rw[id']at this;unfold onW at this;omega)
 rw[show aU _=_ from e1];simp only[CR];rw[show aT _=_ from e2];simp only[CR,B5 hi (by omega:w.AK.length<=9223372036854775807)]
def axV{l:List Int}(hb:BOk l):Us (l,())=I ((A0,()),()):=by
 obtain⟨ev,hd,hl,ht⟩:=OJ hb;have hw:=(Fe<|Mn ev).1;unfold Us;apply Tot.val;refine Tot.ite (λ_=>Tot.ret rfl) (λ_=>Tot.bind (Tot.eq hd) λr1 h1=> ?_);subst h1;refine Tot.bind (Tot.eq<|Nu J ht) λr2 h2=>Tot.bind (Tot.eq<|KK J ht) λr3 h3=> ?_;subst h2 h3;refine Tot.bind (Tot.eq<|OB<|Ml ev) λr5 h5=> ?_;subst h5;refine Tot.neg rfl ?_;rw[show aV _=_ from av1 hw];exact Tot.ret rfl
end Go.VS
end
end
