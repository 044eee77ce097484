/- Part 22. -/
import Derived.Test.YtplahhbealfpcaaGreatDoorQAU
set_option linter.unusedVariables false
set_option linter.unusedSimpArgs false
set_option linter.defProp false
open Bool renaming false->A3,true->A0
open Decidable renaming decide->A1
open List renaming getElem_mem->CJ,length_append->Ar
open Nat renaming le_refl->As
open Option renaming bind_some->A9,none->U,some->I
section
set_option linter.all false
noncomputable section
namespace Go.VS
open Go Go.Proofs
set_option maxRecDepth 100000
def aeb:Cx:=cX [MR,Mc,Md,MX,Im] [] [(69,71)]
def pZ:OKC Tryz.prog aeb AF:=okc mixed<|gC Np<|gC Nr<|gC Ns<|gC Nw<|gC JV<|AJ
def UQ(x:Y2×Int×A2):Rnd (Y2×Int×A2) (Bool×A2) (Y2×A2):=if A1 (x.2.1<(x.1.2.1.length:Int)) then if inb x.2.1 x.1.2.1.length then(H5 (((rd (dfl .AQ) x.1.2.1 x.2.1).id,(rd (dfl .AQ) x.1.2.1 x.2.1).up,(rd (dfl .AQ) x.1.2.1 x.2.1).log,(rd (dfl .AQ) x.1.2.1 x.2.1).fo,(rd (dfl .AQ) x.1.2.1 x.2.1).AN,()),())).bind λa=>if(A1<|0<(w64<|(w64<|(a.1.1.2.2.2.1.length:Int)+(a.1.1.2.2.2.2.1.length:Int))+(a.1.1.2.2.2.2.2.1.length:Int)))||(!decide (a.1.1.2.2.1=1)) then I (.inr<|.inl (A3,())) else I (.inl (x.1,(w64<|x.2.1+1),())) else U else I (.inr<|.inr (x.1,()))
def aK:=AR UQ
def aci:Loop:=⟨[(7,Z2),(8,.int .i64)],[(7,Z2)],2,[(2,.bool)],aK⟩
def aeM:LF Tryz.f5 [] [1,1,1,1,1,1,1,1,0,1,0,0] aci:=sq (v:= .nil) pZ (b:=UQ) kN
def p6(x:List Event×List Event×Int×A2):Rnd (List Event×List Event×Int×A2) (A2) (List Event×A2):=if A1 (x.2.2.1<(x.1.length:Int)) then if inb x.2.2.1 x.1.length then if !decide ((rd (dfl .BK) x.1 x.2.2.1).ki=1) then if inb x.2.2.1 x.1.length then if Ac (x.2.1.length+([(rd (dfl .BK) x.1 x.2.2.1)]:List Event).length) then I (.inl (x.1,(x.2.1++([(rd (dfl .BK) x.1 x.2.2.1)]:List Event)),(w64<|x.2.2.1+1),())) else U else U else I (.inl (x.1,x.2.1,(w64<|x.2.2.1+1),())) else U else I (.inr<|.inr (x.2.1,()))
def acP:=AR p6
def acj:Loop:=⟨[(3,.row 46 .BK),(4,.row 46 .BK),(5,.int .i64)],[(4,.row 46 .BK)],0,[],acP⟩
def aeQ:LF Tryz.f5 [] [1,1,1,1,0,1,0,0] acj:=sq (v:= .nil) pZ (b:=p6) kN
def UM(x:List Int×A2):Option ((Bool×A2)×A2):=if A1 (1048576<(x.1.length:Int)) then I ((A0,()),()) else(JU x).bind λd=>(AM (acP (d.1.1,([]:List Event),0,())) (λ_=>U) λb=>(KJ b).bind λe=>(II b).bind λc=>(It (c.1.1,e.1)).bind λf=>if !f.1.1 then I ((A3,()),()) else(AM (aK (c.1.1,0,())) (λa=>I (a,())) (λa=>let g:=(A1<|(w64<|(w64<|(a.1.2.2.2.1.length:Int)+(a.1.2.2.2.2.1.length:Int))+(a.1.2.2.2.2.2.1.length:Int))=0);I ((g,()),()))))
def afK:Ent:=(5,U,⟨[.fz .u8],[.bool],UM⟩)
def ade:SQ Tryz.prog afK:=sk (v:=t1<|t1<|t1<|t1<|.two (t1<|.one<|.loop acj)<|t1<|t1<|t1<|.two (t1<|.one<|.loop aci) .nil) (fn:=Tryz.f5) pZ<|kC aeQ<|kC aeM kN
end Go.VS
end
end
section
set_option linter.all false
noncomputable section
namespace Go.VS
open Go
def ab0:Empty rv0:=⟨R3,rfl,rfl,λi hi=>by unfold sT;rw[(TC hi).1]⟩
def apw{l:List Event}(h:∀e∈l,e.ki≠1):DW (Ci rv0 l)=A0/\Empty (Ci rv0 l):=
 SW (P:=Empty) (Q:=λe=>e.ki≠1) (λw e h p q d=>p.sim (Fe h).1 q d) l OZ ab0 h
def jQ(l:List AA)(i:Nat): @rd AA (dfl .AQ) l (i:Int)=kA l i:=rfl
def OT(n:Nat):A1 ((n:Int)<(n:Int))=A3:=by simp
def aa6{l:List Event}{i:Nat}(h:i<l.length):evA l i∈l:=by
 rw[mY h];exact CJ h
def aqt{w:AX}(ok:BA w)(e:Empty w):aK (tR w,0,())=I (.inr (tR w,())):=by
 have kl:=ok.kl;refine C2 (b:=UQ) (λi=>(tR w,(i:Int),())) w.AK.length (λi hi=> ?_) (by
  unfold UQ;simp only[OT,A7])
 have hi4:i<4:=J
 unfold UQ;obtain⟨a,b,c,_⟩:=e.none ok hi4;have d:=e.2.2.2 i hi4;unfold sT at a b c d;simp only[B7 hi,AP hi,jQ,A5,Il (ok.k i hi4).1,A9,a,b,c,d,B5 hi (by omega:w.AK.length<=9223372036854775807)];rfl
def atO{l:List Int}(hb:BOk l):UM (l,())=I ((A0,()),()):=by
 obtain⟨ev,hd,hl,ht⟩:=OJ hb;unfold UM;apply Tot.val;refine Tot.ite (λ_=>Tot.ret rfl) (λ_=>Tot.bind (Tot.eq hd) λr1 h1=> ?_);subst h1;refine Tot.sum (P:=λ_=>False) (Q:=λs=>∃L:List Event,s=(L,())/\(∀e∈L,e∈ev/\e.ki≠1)/\L.length<=ev.length) ?_ (λ_ h=>h.elim) (λy hy=> ?_)
 .refine Tot.loop (λi s=>∃L:List Event,s=(ev,L,(i:Int),())/\(∀e∈L,e∈ev/\e.ki≠1)/\L.length<=i) _ ev.length (λi s hi hs=> ?_) ⟨[],rfl,λ_ h=>(by cases h),As _⟩;obtain⟨L,rfl,hL,hz⟩:=hs;unfold p6;refine Tot.ite (λhc=> ?_) (λhc=>Tot.ret ⟨L,rfl,hL,J⟩);have hc:(i:Int)<(ev.length:Int):=BX hc;have hi':i<ev.length:=J
  have ew:w64 ((i:Int)+1)=((i+1:Nat):Int):=by rw[AZ J J];rfl
  refine Tot.pos (AP hi') (Tot.ite (λh1=> ?_) λ_=>Tot.ret ⟨hi',L,by rw[ew],hL,J⟩);refine Tot.pos (AP hi') (Tot.pos (B8 (by show L.length+1<=_;omega))<|Tot.ret ⟨hi',L++[evA ev i],by rw[ew];rfl, ?_,by rw[Ar];show L.length+1<=_;omega⟩);refine Sl hL ⟨aa6 hi', ?_⟩;have h1:(!decide ((evA ev i).ki=1))=A0:=h1;simpa using h1
 .obtain⟨L,rfl,hL,hz⟩:=hy;have ht':∀e∈L,e.tx.size<=1048576:=λe he=>ht e (hL e he).1;refine Tot.bind (Tot.eq<|Nu J ht') λr2 h2=>Tot.bind (Tot.eq<|KK J ht') λr3 h3=> ?_;subst h2 h3;refine Tot.bind (Tot.eq<|OB<|Ml L) λr5 h5=> ?_;subst h5;have hw:=(Fe<|Mn L).1;have he:Empty (Ch L):=by
   unfold Ch;split
   .exact ab0
   .exact(apw λe he=>(hL e he).2).2
  refine Tot.neg rfl ?_;rw[show aK _=_ from aqt hw he];have g:=(he.none hw (i:=0) J).2.2.2;have s:=he.2.1;have r:=he.2.2.1;simp only[CR,g,s,r];exact Tot.ret rfl
end Go.VS
end
end
