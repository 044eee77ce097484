/- Part 22. -/
import Derived.Test.YtlhpnadjdlppaaaGreatDoorQAU
set_option linter.unusedVariables false
set_option linter.unusedSimpArgs false
set_option linter.defProp false
open Bool renaming and_self->Cd,false->A3,not_false->AE,not_true->AB,true->A1
open Decidable renaming decide->A0
open List renaming getElem_mem->Cm
open Option renaming bind_some->A9,getD_some->CF,isSome_some->CE,none->U,some->I
section
set_option linter.all false
noncomputable section
namespace Go.VS
open Go Go.Proofs
set_option maxRecDepth 100000
def afy:Cx:=cX [Mc,Lh,MV,MK,Sk] [] [(48,50)]
def wa:OKC Tryz.prog afy AF:=okc mixed<|gC Nz<|gC Ng<|gC NE<|gC Nn<|gC XG<|AJ
def eO(x:Y2×Y2×Int×Int×A2):Rnd (Y2×Y2×Int×Int×A2) (A2) (Int×A2):=if A0 (x.2.2.2.1<(x.2.1.2.1.length:Int)) then if inb x.2.2.2.1 x.2.1.2.1.length then if inb x.2.2.2.1 x.1.2.1.length then(LQ (((rd (dfl .AL) x.2.1.2.1 x.2.2.2.1).id,(rd (dfl .AL) x.2.1.2.1 x.2.2.2.1).up,(rd (dfl .AL) x.2.1.2.1 x.2.2.2.1).log,(rd (dfl .AL) x.2.1.2.1 x.2.2.2.1).fo,(rd (dfl .AL) x.2.1.2.1 x.2.2.2.1).AM,()),((rd (dfl .AL) x.1.2.1 x.2.2.2.1).id,(rd (dfl .AL) x.1.2.1 x.2.2.2.1).up,(rd (dfl .AL) x.1.2.1 x.2.2.2.1).log,(rd (dfl .AL) x.1.2.1 x.2.2.2.1).fo,(rd (dfl .AL) x.1.2.1 x.2.2.2.1).AM,()),())).bind λa=>if !a.1.1 then I (.inl (x.1,x.2.1,(w64<|x.2.2.1+1),(w64<|x.2.2.2.1+1),())) else I (.inl (x.1,x.2.1,x.2.2.1,(w64<|x.2.2.2.1+1),())) else U else U else I (.inr<|.inr (x.2.2.1,()))
def u9:=AZ eO
def zL:Loop:=⟨[(3,Z29),(7,Z2),(9,.int .i64),(10,.int .i64)],[(9,.int .i64)],0,[],u9⟩
def alu:LF Tryz.f6 [] [1,1,1,1,1,1,1,0,1,0,0] zL:=sq (v:= .nil) wa (b:=eO) kN
def Vd(x:List Int×A2):Option ((Bool×A2)×A2):=if A0 (1048576<(x.1.length:Int)) then I ((A1,()),()) else(JH x).bind λd=>(FZ d.1).bind λc=>(Fe d.1).bind λb=>(B8 (X:=Y2×Y2×Bool×Y2×Bool×Bool×A2) (λa=>if a.2.2.2.2.2.1 then if Ah (A0<|a.2.2.2.2.1=a.2.2.1) ((DZ (a.2.2.2.1,a.2.1,())).isSome) then let e:=((A0<|a.2.2.2.2.1=a.2.2.1)&&(((DZ (a.2.2.2.1,a.2.1,())).getD ((A3,()),())).1.1));I ((e,()),()) else U else(AS (u9 (a.1,a.2.2.2.1,0,0,())) (λ_=>U) λf=>I (((A0<|f.1<=1),()),())))<|(if !decide (b.1.2.1=c.1.2.1) then I (.inr (d.1.1,c.1.1,c.1.2.1,b.1.1,b.1.2.1,A1,())) else(DZ (b.1.1,c.1.1,())).bind λg=>if !g.1.1 then I (.inr (d.1.1,c.1.1,c.1.2.1,b.1.1,b.1.2.1,A1,())) else I (.inr (d.1.1,c.1.1,c.1.2.1,b.1.1,b.1.2.1,(!b.1.2.1),()))))
def axc:Ent:=(6,U,⟨[.fz .u8],[.bool],Vd⟩)
def apU:SQ Tryz.prog axc:=sk (v:=t1<|t1<|t1<|t1<|t1<|.two (.join [(3,Z29),(5,Z2),(6,.bool),(7,Z2),(8,.bool),(43,.bool)] .nil .nil)<|t1<|.two (t1<|.one<|.loop zL) .nil) (fn:=Tryz.f6) wa<|kC alu kN
end Go.VS
end
end
section
set_option linter.all false
noncomputable section
namespace Go.VS
open Go
def K4{w:Ak}{e:Event}(h:(doM w e).2=A1):At w e=⟨w64<|w.ti+1,(doM w e).1.AH,(doM w e).1.B0,(doM w e).1.AP,(doM w e).1.Aw,(doM w e).1.got⟩:=by
 unfold At HS;rw[h,A8 rfl,Wa]
def arW{l m:List AG}(hl:l.length<=1048576)(hs:∀h∈l,NM h):Tot (Mf (l,m,())) λ_=>True:=by
 unfold Mf;refine Tot.ite (λ_=>Tot.ret trivial) (λhn=> ?_);have hlen:(l.length:Int)=(m.length:Int):=by
  have:(!decide ((l.length:Int)=(m.length:Int)))=A3:=hn;simpa using this
 refine Tot.sum (P:=λ_=>True) (Q:=λ_=>True) ?_ (λ_ _=>Tot.ret trivial) (λ_ _=>Tot.ret trivial);refine Tot.loop (λi s=>s=(l,m,(i:Int),())) _ l.length (λi s hi hx=> ?_) rfl;subst hx;unfold Qf;refine Tot.ite (λhc=> ?_) (λ_=>Tot.ret trivial);have hc:(i:Int)<(l.length:Int):=BP hc;have h1:inb (i:Int) l.length=A1:=AX J;have h2:inb (i:Int) m.length=A1:=AX J;have hg:(hA l i).got.length<=1048576:=by
  rw[HK J];exact(hs _<|Cm J).1
 simp only[Jh,h1,h2,A5]
 iterate 5 refine Tot.ite (λ_=>Tot.ret trivial) λ_=> ?_
 refine Tot.ite (λ_=>Tot.ret trivial) (λhn=> ?_);have hgl:((hA l i).got.length:Int)=((hA m i).got.length:Int):=by
  have h':=congrArg (λb=> !b) hn;simp only[Bool.not_not,AE]at h';exact BP h'
 refine Tot.sum (P:=λ_=>True) (Q:=λy=>y=(l,m,(i:Int),())) ?_ (λ_ _=>Tot.ret trivial) (λy hy=> ?_)
 .refine Tot.loop (λj s=>s=(l,m,(i:Int),(j:Int),())) _ (hA l i).got.length (λj s hj hx=> ?_) rfl;subst hx;unfold RD;simp only[Jh,h1,h2,A5];refine Tot.ite (λhc=> ?_) (λ_=>Tot.ret rfl);have hc:(j:Int)<((hA l i).got.length:Int):=BP hc;refine Tot.pos (AX J) (Tot.pos (AX J)<|Tot.ite (λ_=>Tot.ret trivial) λ_=>Tot.ret ⟨J, ?_⟩);show(l,m,(i:Int),w64<|(j:Int)+1,())=_;rw[AY J J];rfl
 .subst hy;refine Tot.ret ⟨J, ?_⟩;show(l,m,w64<|(i:Int)+1,())=_;rw[AY J J];rfl
def awT{a b:AA}(sm:EL a):Tot (LQ (tKp a,tKp b,())) λ_=>True:=by
 obtain⟨r,hr,_⟩:=arW (l:=a.AM) (m:=b.AM) sm.2.1 sm.2.2;unfold LQ;simp only[hr,CE,Dr,A5];exact Tot.ite (λ_=>Tot.ite (λ_=>Tot.ret trivial) λ_=>Tot.ret trivial) λ_=>Tot.ret trivial
def aqM{w:Ak}(h:BR w)(e:Event):∃j,∀i,i≠j->kA (doM w e).1.AH i=kA w.AH i:=by
 rcases rm h e with e1|⟨j,k',hj,_,e1⟩
 .exact⟨0,λi _=>by rw[e1]⟩
 .refine⟨j,λi hi=> ?_⟩;rw[e1,JQ (by rw[h.kl];exact hj),AD hi]
def avQ{l:List Int}(hb:BOk l):Vd (l,())=I ((A1,()),()):=by
 obtain⟨w,e,hd,sm,_,ht⟩:=NQ hb;have sx:=MP sm e;unfold Vd;apply Tot.val;refine Tot.ite (λ_=>Tot.ret rfl) (λ_=> ?_);refine Tot.bind (Tot.eq hd) λr1 h1=> ?_;subst h1;refine Tot.bind (Tot.eq<|NP sm ht) λr2 h2=>Tot.bind (Tot.eq<|LP sm ht) λr3 h3=> ?_;subst h2 h3;refine Tot.join (A:=λj=>j=(tR w,tR (Bd w e).1,(Bd w e).2,tR (Bd w e).1,(Bd w e).2,!(Bd w e).2,())) ?_ (λj hj=> ?_)
 .simp only[Ew sx,A9,AO,AB,A6];exact Tot.ret rfl
 .subst hj;rcases L7 w e with⟨c,h⟩|⟨c,h⟩|⟨c,c1,c2,h⟩
  .rw[h]at sx ⊢;simp only[AE,A5,Ew sx,CE,Dr,AO,CF,Cd];exact Tot.ret rfl
  .rw[h]at sx ⊢;simp only[AE,A5,Ew sx,CE,Dr,AO,CF,Cd];exact Tot.ret rfl
  .have hr:=(Gt c).1;have hx:=VE hr e;have k4:=hx.kl;have w4:=hr.kl;obtain⟨j,hj⟩:=aqM hr e;have ek:(At w e).AH=(doM w e).1.AH:=by rw[K4 c2]
   rw[← ek]at hj;rw[h];simp only[AB,A6];refine Tot.sum (P:=λ_=>False) (Q:=λy=>y.1<=1) ?_ (λ_ h=>h.elim) (λy hy=>Tot.ret<|by rw[AT hy]);refine Tot.loop (λi s=>∃n:Nat,s=(tR w,tR<|At w e,(n:Int),(i:Int),())/\n<=1/\(i<=j->n=0)) _ 4 (λi s hi hs=> ?_) ⟨0,rfl,J,λ_=>rfl⟩;obtain⟨n,rfl,n1,n0⟩:=hs;unfold eO;refine Tot.ite (λhc=> ?_) (λ_=>Tot.ret (by show(n:Int)<=1;omega));have hc:(i:Int)<((At w e).AH.length:Int):=BP hc;have b1:inb (i:Int) (At w e).AH.length=A1:=AX J;have b2:inb (i:Int) w.AH.length=A1:=AX J;refine Tot.pos b1<|Tot.pos b2 ?_;simp only[NU];have hsm:EL (kA (At w e).AH i):=P6 hx J;have ei:w64 ((i:Int)+1)=((i+1:Nat):Int):=Ll rfl J;by_cases hij:i=j
   .refine Tot.bind (awT (b:=kA w.AH i) hsm) λr4 _=>Tot.ite (λ_=>Tot.ret ⟨J,n+1, ?_, ?_,λh=>by omega⟩) (λ_=>Tot.ret ⟨J,n, ?_,n1,λh=>by omega⟩)
    .rw[ei,show w64 ((n:Int)+1)=((n+1:Nat):Int) from Ll rfl J]
    .have:=n0 J;omega
    .rw[ei]
   .refine Tot.bind (Tot.eq (show LQ (tKp<|kA (At w e).AH i,tKp<|kA w.AH i,())=_ by rw[← hj i hij];exact Vl hsm)) λr4 h4=> ?_;subst h4;refine Tot.neg rfl (Tot.ret ⟨J,n, ?_,n1,λh=>n0 J⟩);rw[ei]
end Go.VS
end
end
