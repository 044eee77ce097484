/- Part 22. -/
import Derived.Test.YtplahhbealfpcaaGreatDoorQAU
set_option linter.unusedVariables false
set_option linter.unusedSimpArgs false
set_option linter.defProp false
open Bool renaming and_eq_true->AE,false->A3,true->A0
open Decidable renaming decide->A1
open List renaming getD_eq_getElem?_getD->B9,getElem?_eq_getElem->Av,getElem_of_mem->DG,length_append->Ar,mem_append->BM
open Nat renaming lt_or_ge->HU,not_lt_zero->kv
open Option renaming none->U,some->I
section
set_option linter.all false
noncomputable section
namespace Go.VS
open Go Go.Proofs
set_option maxRecDepth 100000
def aol:Cx:=cX [] [] []
def aAH:OKC Tryz.prog aol AF:=okc mixed<|AJ
def gT(x:List A6×Y4×Int×A2):Rnd (List A6×Y4×Int×A2) (Bool×A2) (A2):=if A1 (x.2.2.1<(x.1.length:Int)) then if inb x.2.2.1 x.1.length then if MF ((rd (dfl .note) x.1 x.2.2.1).fr) ((rd (dfl .note) x.1 x.2.2.1).nu) ((rd (dfl .note) x.1 x.2.2.1).to) ((rd (dfl .note) x.1 x.2.2.1).un) ((rd (dfl .note) x.1 x.2.2.1).tx) x.2.1.1 x.2.1.2.1 x.2.1.2.2.1 x.2.1.2.2.2.1 x.2.1.2.2.2.2.1 then I (.inr<|.inl (A0,())) else I (.inl (x.1,x.2.1,(w64<|x.2.2.1+1),())) else U else I (.inr<|.inr ())
def uZ:=AR gT
def xg:Loop:=⟨[(0,.sl .note),(3,Z5),(5,.int .i64)],[],0,[(4,.bool)],uZ⟩
def anz:LF Tryz.f17 [] [1,0,1,0,0] xg:=sq (v:= .nil) aAH (b:=gT) kN
def Pu(x:List A6×Y4×A2):Option ((Bool×A2)×A2):=(AM (uZ (x.1,x.2.1,0,())) (λa=>I (a,())) λa=>I ((A3,()),()))
def iO:Ent:=(17,U,⟨[.fz .note,Z6],[.bool],Pu⟩)
def uY:SQ Tryz.prog iO:=sk (v:=t1<|.two (t1<|.one<|.loop xg) .nil) (fn:=Tryz.f17) aAH<|kC anz kN
def afT:Cx:=cX [MR,Mc,Md,MX,Im,iO] [] []
def qP:OKC Tryz.prog afT AF:=okc mixed<|gC Np<|gC Nr<|gC Ns<|gC Nw<|gC JV<|gC uY<|AJ
def pT(x:Y2×List A6×Int×A2):Rnd (Y2×List A6×Int×A2) (Bool×A2) (A2):=if A1 (x.2.2.1<(x.2.1.length:Int)) then if inb x.2.2.1 x.2.1.length then(Pu (x.1.2.2.2.2.1,((rd (dfl .note) x.2.1 x.2.2.1).fr,(rd (dfl .note) x.2.1 x.2.2.1).nu,(rd (dfl .note) x.2.1 x.2.2.1).to,(rd (dfl .note) x.2.1 x.2.2.1).un,(rd (dfl .note) x.2.1 x.2.2.1).tx,()),())).bind λa=>if !a.1.1 then I (.inr<|.inl (A3,())) else I (.inl (x.1,x.2.1,(w64<|x.2.2.1+1),())) else U else I (.inr<|.inr ())
def acU:=AR pT
def ad0:Loop:=⟨[(5,Z2),(6,.row 43 .note),(9,.int .i64)],[],2,[(2,.bool)],acU⟩
def aen:LF Tryz.f8 [] [1,1,1,1,1,1,1,1,0,1,0,0] ad0:=sq (v:= .nil) qP (b:=pT) kN
def pU(x:Y2×List A6×Int×A2):Rnd (Y2×List A6×Int×A2) (A2) (Y2×List A6×A2):=if A1 (x.2.2.1<(x.1.2.1.length:Int)) then if inb x.2.2.1 x.1.2.1.length then(H5 (((rd (dfl .AQ) x.1.2.1 x.2.2.1).id,(rd (dfl .AQ) x.1.2.1 x.2.2.1).up,(rd (dfl .AQ) x.1.2.1 x.2.2.1).log,(rd (dfl .AQ) x.1.2.1 x.2.2.1).fo,(rd (dfl .AQ) x.1.2.1 x.2.2.1).AN,()),())).bind λa=>if Ac (x.2.1.length+a.1.1.2.2.2.1.length) then if Ac ((x.2.1++a.1.1.2.2.2.1).length+a.1.1.2.2.2.2.2.1.length) then I (.inl (x.1,((x.2.1++a.1.1.2.2.2.1)++a.1.1.2.2.2.2.2.1),(w64<|x.2.2.1+1),())) else U else U else U else I (.inr<|.inr (x.1,x.2.1,()))
def acV:=AR pU
def ad1:Loop:=⟨[(5,Z2),(6,.row 43 .note),(7,.int .i64)],[(5,Z2),(6,.row 43 .note)],0,[],acV⟩
def afB:LF Tryz.f8 [] [1,1,1,1,1,1,1,0,1,0,0] ad1:=sq (v:= .nil) qP (b:=pU) kN
def UZ(x:List Int×A2):Option ((Bool×A2)×A2):=if A1 (1048576<(x.1.length:Int)) then I ((A0,()),()) else(JU x).bind λb=>(KJ b.1).bind λe=>(II b.1).bind λa=>(It (a.1.1,e.1)).bind λf=>if !f.1.1 then I ((A3,()),()) else if Ac (([]:List A6).length+a.1.1.2.2.2.2.2.1.length) then(AM (acV (a.1.1,(([]:List A6)++a.1.1.2.2.2.2.2.1),0,())) (λ_=>U) λc=>(AM (acU (c.1,c.2.1,0,())) (λd=>I (d,())) λd=>I ((A0,()),()))) else U
def afe:Ent:=(8,U,⟨[.fz .u8],[.bool],UZ⟩)
def adj:SQ Tryz.prog afe:=sk (v:=t1<|t1<|t1<|t1<|t1<|t1<|t1<|.two (t1<|.one<|.loop ad1)<|.two (t1<|.one<|.loop ad0) .nil) (fn:=Tryz.f8) qP<|kC afB<|kC aen kN
end Go.VS
end
end
section
set_option linter.all false
noncomputable section
namespace Go.VS
open Go
def YO{l:List A6}{n:A6}(hl:l.length<=1000):Tot (Pu (l,(n.fr,n.nu,n.to,n.un,n.tx,()),())) λr=>r.1.1=A0↔n∈l:=by
 unfold Pu;refine Tot.sum (P:=λy=>y.1=A0/\n∈l) (Q:=λ_=>n ∉ l) ?_ (λy hy=>Tot.ret ⟨λ_=>hy.2,λ_=>hy.1⟩) (λy hy=>Tot.ret ⟨(λh=>by cases h),λh=>absurd h hy⟩);refine Tot.loop (λi s=>s=(l,(n.fr,n.nu,n.to,n.un,n.tx,()),(i:Int),())/\ ∀j,j<i->nA l j≠n) _ l.length (λi s hi hs=> ?_) ⟨rfl,λj hj=>absurd hj<|kv _⟩;obtain⟨rfl,hs⟩:=hs;unfold gT;refine Tot.ite (λhc=> ?_) (λhc=> ?_)
 .have hc:(i:Int)<(l.length:Int):=BX hc;have hi':i<l.length:=J
  refine Tot.pos (AP hi') (Tot.ite (λhe=>Tot.ret ⟨rfl, ?_⟩) λhe=>Tot.ret ⟨hi',by rw[show w64 ((i:Int)+1)=_ from Ka rfl J],λj hj=> ?_⟩)
  .have he:MF (nA l i).fr (nA l i).nu (nA l i).to (nA l i).un (nA l i).tx n.fr n.nu n.to n.un n.tx=A0:=he;unfold MF at he;simp only[AE,decide_eq_true_eq]at he;have:nA l i=n:=by
    cases hN:nA l i;cases n;rw[hN]at he;simp only at he;obtain⟨rfl,rfl,rfl,rfl,rfl,_⟩:=he;rfl
   rw[← this];exact Hx hi'
  .rcases HU j i with h|h
   .exact hs j h
   .have:j=i:=J
    subst this;intro e;have he:MF (nA l j).fr (nA l j).nu (nA l j).to (nA l j).un (nA l j).tx n.fr n.nu n.to n.un n.tx=A3:=he;rw[e]at he;unfold MF at he;simp at he
 .have hc:¬(i:Int)<(l.length:Int):=KC hc;refine Tot.ret λhn=> ?_;obtain⟨j,hj,e⟩:=DG hn;refine hs j J ?_;rw[← e,nA,B9,Av hj];rfl
end Go.VS
end
end
section
set_option linter.all false
noncomputable section
namespace Go.VS
open Go
def aw9{l:List Int}(hb:BOk l):UZ (l,())=I ((A0,()),()):=by
 obtain⟨ev,hd,hl,ht⟩:=OJ hb;have hw:=(Fe<|Mn ev).1;have v:=(XO ev).2;have sm:=Ml ev;have kl:=hw.kl;have gl:=hw.gl;have sl:=hw.sl;unfold UZ;apply Tot.val;refine Tot.ite (λ_=>Tot.ret rfl) (λ_=>Tot.bind (Tot.eq hd) λr1 h1=> ?_);subst h1;refine Tot.bind (Tot.eq<|Nu J ht) λr2 h2=>Tot.bind (Tot.eq<|KK J ht) λr3 h3=> ?_;subst h2 h3;refine Tot.bind (Tot.eq<|OB sm) λr5 h5=> ?_;subst h5;generalize hW:Ch ev=w at *;refine Tot.neg rfl (Tot.pos (B8 (by simp;omega)) ?_);refine Tot.sum (P:=λ_=>False) (Q:=λs=>∃L:List A6,s=(tR w,L,())/\(∀n∈L,n∈w.Ab)/\L.length<=54) ?_ (λ_ h=>h.elim) (λy hy=> ?_)
 .refine Tot.loop (λi s=>∃L:List A6,s=(tR w,L,(i:Int),())/\(∀n∈L,n∈w.Ab)/\L.length<=6+12 * i) _ 4 (λi s hi hs=> ?_) ⟨[]++w.got,rfl,λn hn=>(v.gs n hn).1,by simp;omega⟩;obtain⟨L,rfl,hL,hz⟩:=hs;unfold pU;refine Tot.ite (λhc=> ?_) (λhc=>Tot.ret ⟨L,rfl,hL,J⟩);have hc:(i:Int)<(w.AK.length:Int):=BX hc;have hi4:i<4:=J
  have kf:=CY<|Og hw hi4;have f1:=kf.hl;have f2:=kf.il;refine Tot.pos (AP<|show i<w.AK.length by omega) (Tot.bind (Tot.eq<|Il (hw.k i hi4).1) λr12 h12=> ?_);subst h12;have f1':(stT<|kA w.AK i).held.length<=6:=f1;have f2':(stT<|kA w.AK i).inbox.length<=6:=f2;refine Tot.pos (B8 ?_) (Tot.pos (B8 ?_)<|Tot.ret ⟨hi4,(L++(stT<|kA w.AK i).held)++(stT<|kA w.AK i).inbox, ?_,λn hn=> ?_, ?_⟩)
  .show L.length+(stT<|kA w.AK i).held.length<=_;omega
  .show(L++(stT<|kA w.AK i).held).length+(stT<|kA w.AK i).inbox.length<=_;rw[Ar];omega
  .rw[show w64 ((i:Int)+1)=_ from Ka rfl J];rfl
  .rcases BM.1 hn with hn|hn
   .rcases BM.1 hn with hn|hn
    .exact hL n hn
    .exact v.hs i hi4 n (((v.lo i hi4).lf (hw.k i hi4).1).held n hn)
   .exact(v.bx i hi4 n hn).1
  .rw[Ar,Ar];omega
 .obtain⟨L,rfl,hL,hz⟩:=hy;refine Tot.sum (P:=λ_=>False) (Q:=λ_=>True) ?_ (λ_ h=>h.elim) (λ_ _=>Tot.ret rfl);refine Tot.loop (λi s=>s=(tR w,L,(i:Int),())) _ L.length (λi s hi hs=> ?_) rfl;subst hs;unfold pT;refine Tot.ite (λhc=> ?_) (λhc=>Tot.ret trivial);have hc:(i:Int)<(L.length:Int):=BX hc;have hi':i<L.length:=J
  refine Tot.pos (AP hi') (Tot.bind (YO (l:=w.Ab) (n:=nA L i) J) λr20 h20=> ?_);rw[h20.2<|hL _<|Hx hi'];exact Tot.neg rfl (Tot.ret ⟨hi',by rw[show w64 ((i:Int)+1)=_ from Ka rfl J]⟩)
end Go.VS
end
end
