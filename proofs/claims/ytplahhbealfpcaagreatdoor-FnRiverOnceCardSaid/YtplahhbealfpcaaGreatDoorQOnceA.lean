/- Part 22. -/
import Derived.Test.YtplahhbealfpcaaGreatDoorQAU
set_option linter.unusedVariables false
set_option linter.unusedSimpArgs false
set_option linter.defProp false
open Bool renaming and_false->Bc,false->A3,false_and->AO,true->A0
open Decidable renaming decide->A1
open List renaming getElem?_eq_getElem->Av,pairwise_iff_getElem->Ou
open Option renaming none->U,some->I
section
set_option linter.all false
noncomputable section
namespace Go.VS
open Go Go.Proofs
set_option maxRecDepth 100000
def afU:Cx:=cX [MR,Mc,Md,MX] [] [(47,59)]
def qQ:OKC Tryz.prog afU AF:=okc mixed<|gC Np<|gC Nr<|gC Ns<|gC Nw<|AJ
def ai(x:Y2×Int×Int×A2):Rnd (Y2×Int×Int×A2) (Bool×A2) (Y2×Int×A2):=if A1 (x.2.2.1<x.2.1) then if inb x.2.1 x.1.2.2.2.2.2.1.length then if inb x.2.2.1 x.1.2.2.2.2.2.1.length then if Ak (A1<|(rd (dfl .note) x.1.2.2.2.2.2.1 x.2.1).fr=(rd (dfl .note) x.1.2.2.2.2.2.1 x.2.2.1).fr) (inb x.2.1 x.1.2.2.2.2.2.1.length) then if Ak (A1<|(rd (dfl .note) x.1.2.2.2.2.2.1 x.2.1).fr=(rd (dfl .note) x.1.2.2.2.2.2.1 x.2.2.1).fr) (inb x.2.2.1 x.1.2.2.2.2.2.1.length) then if(A1<|(rd (dfl .note) x.1.2.2.2.2.2.1 x.2.1).fr=(rd (dfl .note) x.1.2.2.2.2.2.1 x.2.2.1).fr)&&(A1<|(rd (dfl .note) x.1.2.2.2.2.2.1 x.2.1).nu=(rd (dfl .note) x.1.2.2.2.2.2.1 x.2.2.1).nu) then I (.inr<|.inl (A3,())) else I (.inl (x.1,x.2.1,(w64<|x.2.2.1+1),())) else U else U else U else U else I (.inr<|.inr (x.1,x.2.1,()))
def aL:=AR ai
def ad2:Loop:=⟨[(5,Z2),(6,.int .i64),(7,.int .i64)],[(5,Z2),(6,.int .i64)],2,[(2,.bool)],aL⟩
def aeo:LF Tryz.f4 [] [1,1,1,1,1,1,0,1,0,0,1,0,0,1,0,0] ad2:=sq (v:= .nil) qQ (b:=ai) kN
def UN(x:Y2×Int×A2):Rnd (Y2×Int×A2) (Bool×A2) (A2):=if A1 (x.2.1<(x.1.2.2.2.2.2.1.length:Int)) then(AM (aL (x.1,x.2.1,0,())) (λa=>I<|.inr<|.inl a) λa=>I<|.inl (a.1,(w64<|a.2.1+1),())) else I (.inr<|.inr ())
def aM:=AR UN
def ad3:Loop:=⟨[(5,Z2),(6,.int .i64)],[],0,[(2,.bool)],aM⟩
def afC:LF Tryz.f4 [] [1,1,1,1,1,1,0,1,0,0] ad3:=sq (v:=t1<|.two (.one<|t1<|.one<|.loop ad2) .nil) qQ (b:=UN)<|kC aeo kN
def Ua(x:List Int×A2):Option ((Bool×A2)×A2):=if A1 (1048576<(x.1.length:Int)) then I ((A0,()),()) else(JU x).bind λa=>(KJ a.1).bind λd=>(II a.1).bind λb=>(It (b.1.1,d.1)).bind λe=>if !e.1.1 then I ((A3,()),()) else(AM (aM (b.1.1,0,())) (λc=>I (c,())) λc=>I ((A0,()),()))
def aff:Ent:=(4,U,⟨[.fz .u8],[.bool],Ua⟩)
def adk:SQ Tryz.prog aff:=sk (v:=t1<|t1<|t1<|t1<|t1<|t1<|.two (t1<|.one<|.loop ad3) .nil) (fn:=Tryz.f4) qQ<|kC afC kN
end Go.VS
end
end
section
set_option linter.all false
noncomputable section
namespace Go.VS
open Go
def OT(n:Nat):A1 ((n:Int)<(n:Int))=A3:=by simp
def ab4{l:List A6}(h:l.Pairwise Dif){i k:Nat}(hk:k<i)(hi:i<l.length):Dif (nA l k) (nA l i):=by
 rw[Dh<|Av hi,Dh<|Av<|show k<l.length by omega];exact Ou.1 h k i J hi hk
def arH{w:AX}(hg:w.got.length<=6)(h:w.got.Pairwise Dif):aM (tR w,0,())=I (.inr ()):=by
 refine C2 (b:=UN) (λi=>(tR w,(i:Int),())) w.got.length (λi hi=> ?_) (by
  unfold UN;simp only[OT,A7])
 have h1:aL (tR w,(i:Int),0,())=I (.inr (tR w,(i:Int),())):=
  C2 (λk=>(tR w,(i:Int),(k:Int),())) i (λk hk=>by
   have hd:=ab4 h hk hi;unfold Dif at hd;unfold ai;simp only[B7 hk,A5,AP hi,AP<|show k<w.got.length by omega,Cc,GK,B5 hk (by omega:i<=9223372036854775807)];by_cases c:(nA w.got i).fr=(nA w.got k).fr
   .have d:¬(nA w.got i).nu=(nA w.got k).nu:=λd=>hd ⟨c.symm,d.symm⟩;simp only[eq_true c,eq_false d,AU,Ae,Bc,A7]
   .simp only[eq_false c,Ae,AO,A7]) (by
   unfold ai;simp only[OT,A7])
 unfold UN;simp only[B7 hi,A5];rw[show aL _=_ from h1];simp only[CR,B5 hi (by omega:w.got.length<=9223372036854775807)]
def axD{l:List Int}(hb:BOk l):Ua (l,())=I ((A0,()),()):=by
 obtain⟨ev,hd,hl,ht⟩:=OJ hb;have hw:=(Fe<|Mn ev).1;have v:=(XO ev).2;unfold Ua;apply Tot.val;refine Tot.ite (λ_=>Tot.ret rfl) (λ_=>Tot.bind (Tot.eq hd) λr1 h1=> ?_);subst h1;refine Tot.bind (Tot.eq<|Nu J ht) λr2 h2=>Tot.bind (Tot.eq<|KK J ht) λr3 h3=> ?_;subst h2 h3;refine Tot.bind (Tot.eq<|OB<|Ml ev) λr5 h5=> ?_;subst h5;refine Tot.neg rfl ?_;rw[show aM _=_ from arH hw.gl v.gp];exact Tot.ret rfl
end Go.VS
end
end
