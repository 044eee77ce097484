/- Part 22. -/
import Derived.Test.YtplahhbealfpcaaGreatDoorQAU
set_option linter.unusedVariables false
set_option linter.unusedSimpArgs false
set_option linter.defProp false
open Bool renaming and_eq_true->AE,false->A3,or_eq_false_iff->NC,or_self->FU,true->A0
open Decidable renaming decide->A1
open Int renaming mul_le_mul_of_nonneg_left->aBU,mul_nonneg->Qf,not_lt->NM,tdiv->Ax,tdiv_eq_ediv_of_nonneg->Fv,toNat->AL,toNat_of_nonneg->NI
open List renaming getD_eq_getElem?_getD->B9,getElem?_eq_getElem->Av,getElem_mem->CJ,length_take->Cw,mem_of_mem_take->Gx,take->BH,take_append_drop->JH
open Nat renaming zero_le->Cu
open Option renaming bind_some->A9,none->U,some->I
section
set_option linter.all false
noncomputable section
namespace Go.VS
open Go Go.Proofs
set_option maxRecDepth 100000
def aom:Cx:=cX [] [] [(9,11)]
def aph:OKC Tryz.prog aom AF:=okc mixed<|AJ
def WC(x:List Event×List Int×A2):Option ((Int×A2)×A2):=if(A1<|(x.2.1.length:Int)=0)||(A1<|2000<(x.1.length:Int)) then I ((0,()),()) else if inb 0 x.2.1.length then let a:=(w64<|Ax (w64<|(x.1.length:Int) * (w64<|rd (dfl .u8) x.2.1 0)) 256);I ((a,()),()) else U
def iP:Ent:=(16,U,⟨[.fz .BK,.fz .u8],[.int .i64],WC⟩)
def ua:SQ Tryz.prog iP:=sk (v:= .nil) (fn:=Tryz.f16) aph kN
def aed:Cx:=cX [MR,Mc,Md,MX,Im,iP] [] [(17,19),(41,43),(73,77)]
def adZ:OKC Tryz.prog aed AF:=okc mixed<|gC Np<|gC Nr<|gC Ns<|gC Nw<|gC JV<|gC ua<|AJ
def UR(x:Y2×Y2×Int×A2):Rnd (Y2×Y2×Int×A2) (Bool×A2) (A2):=if A1 (x.2.2.1<(x.1.2.1.length:Int)) then if inb x.2.2.1 x.1.2.1.length then(H5 (((rd (dfl .AQ) x.1.2.1 x.2.2.1).id,(rd (dfl .AQ) x.1.2.1 x.2.2.1).up,(rd (dfl .AQ) x.1.2.1 x.2.2.1).log,(rd (dfl .AQ) x.1.2.1 x.2.2.1).fo,(rd (dfl .AQ) x.1.2.1 x.2.2.1).AN,()),())).bind λa=>if inb x.2.2.1 x.2.1.2.1.length then(H5 (((rd (dfl .AQ) x.2.1.2.1 x.2.2.1).id,(rd (dfl .AQ) x.2.1.2.1 x.2.2.1).up,(rd (dfl .AQ) x.2.1.2.1 x.2.2.1).log,(rd (dfl .AQ) x.2.1.2.1 x.2.2.1).fo,(rd (dfl .AQ) x.2.1.2.1 x.2.2.1).AN,()),())).bind λb=>if(A1<|b.1.1.2.1<a.1.1.2.1)||(A1<|b.1.1.2.2.1<a.1.1.2.2.1) then I (.inr<|.inl (A3,())) else I (.inl (x.1,x.2.1,(w64<|x.2.2.1+1),())) else U else U else I (.inr<|.inr ())
def oW:=AR UR
def acn:Loop:=⟨[(8,Z2),(9,Z2),(10,.int .i64)],[],0,[(4,.bool)],oW⟩
def aeS:LF Tryz.f6 [] [1,1,1,1,1,1,1,1,0,1,0,0] acn:=sq (v:= .nil) adZ (b:=UR) kN
def Ui(x:List Int×List Int×A2):Option ((Bool×A2)×A2):=if(A1<|1048576<(x.1.length:Int))||(A1<|1048576<(x.2.1.length:Int)) then I ((A0,()),()) else(JU (x.1,())).bind λa=>(WC (a.1.1,x.2)).bind λb=>if A1 (0<=b.1.1)&&A1 (b.1.1<=(a.1.1.length:Int)) then(KJ ((BH (AL b.1.1) a.1.1),())).bind λd=>if A1 (0<=b.1.1)&&A1 (b.1.1<=(a.1.1.length:Int)) then(II ((BH (AL b.1.1) a.1.1),())).bind λc=>(II a.1).bind λf=>(It (c.1.1,d.1)).bind λg=>if(!g.1.1)||(A1<|2000<(a.1.1.length:Int)) then(It (c.1.1,d.1)).bind λh=>I (h.1,()) else(AM (oW (c.1.1,f.1.1,0,())) (λe=>I (e,())) λe=>I ((A0,()),())) else U else U
def afM:Ent:=(6,U,⟨[.fz .u8,.fz .u8],[.bool],Ui⟩)
def adh:SQ Tryz.prog afM:=sk (v:=t1<|t1<|t1<|t1<|t1<|t1<|t1<|t1<|.two (t1<|.one<|.loop acn) .nil) (fn:=Tryz.f6) adZ<|kC aeS kN
end Go.VS
end
end
section
set_option linter.all false
noncomputable section
namespace Go.VS
open Go
def arZ{w:AX}{e:Event}(v:Inv w)(ok:BA w):Ik w (CC w e):=by
 have h:=(Sm v ok e).later ok;unfold CC tick;split<;>exact h
def apv{l:List Event}{w:AX}(h:DW w=A0)(v:Inv w):Ik w (Ci w l):=
 ((SW (P:=λx=>Inv x/\Ik w x) (Q:=λ_=>True) (λx e h v _ _=>⟨v.1.sim (Fe h).1 e,v.2.trans<|arZ v.1 (Fe h).1⟩) l h ⟨v,Ik.rfl w⟩ λ_ _=>trivial).2).2
def jQ(l:List AA)(i:Nat): @rd AA (dfl .AQ) l (i:Int)=kA l i:=rfl
def OT(n:Nat):A1 ((n:Int)<(n:Int))=A3:=by simp
def aEr{ev:List Event}{m:List Int}(hl:ev.length<=1048576)(hb:BOk m):Tot (WC (ev,m,())) λr=>∃c:Nat,r=((((c:Int),()),()):(Int×A2)×A2)/\c<=ev.length/\(2000<ev.length->c=0):=by
 unfold WC;refine Tot.ite (λ_=>Tot.ret ⟨0,rfl,Cu _,λ_=>rfl⟩) (λhc=> ?_);rw[NC,decide_eq_false_iff_not,decide_eq_false_iff_not]at hc;have hm:0<m.length:=by have h:¬(m.length:Int)=0:=hc.1;omega
 have h2:¬(2000:Int)<(ev.length:Int):=hc.2;refine Tot.pos (AP hm)<|Tot.ret ?_;obtain⟨b,eb,b0,b1⟩:∃b,@rd Int (dfl .u8) m 0=b/\0<=b/\b<=255:=by
  refine⟨_,rfl, ?_⟩;have e: @rd Int (dfl .u8) m 0=m[0]:=by
   unfold rd;rw[B9,show AL 0=0 from rfl,Av hm];rfl
  rw[e];exact hb _<|CJ hm
 simp only[eb];have hp0:0<=(ev.length:Int) * b:=Qf J b0;have hp1:(ev.length:Int) * b<=(ev.length:Int) * 256:=aBU J J;rw[AZ (n:=b) J J,AZ (n:=(ev.length:Int) * b) J J,Fv hp0];have hd0:0<=(ev.length:Int) * b / 256:=Int.ediv_nonneg hp0 J;have hd1:(ev.length:Int) * b / 256<=(ev.length:Int):=J
 rw[AZ J J];exact⟨((ev.length:Int) * b / 256).toNat,by rw[NI hd0],J,λh=>by omega⟩
def YC{ev:List Event}(ht:∀e∈ev,e.tx.size<=1048576)(c:Nat):∀e∈ev.take c,e.tx.size<=1048576:=λe he=>ht e<|Gx he
def aqp{w x:AX}(hw:BA w)(hx:BA x)(h:Ik w x):oW (tR w,tR x,0,())=I (.inr ()):=by
 have kl:=hw.kl;have kx:=hx.kl;refine C2 (b:=UR) (λi=>(tR w,tR x,(i:Int),())) w.AK.length (λi hi=> ?_) (by
  unfold UR;simp only[OT,A7])
 have hi4:i<4:=J
 obtain⟨a,b⟩:=h i;unfold sT at a b;unfold UR;simp only[B7 hi,AP hi,AP<|show i<x.AK.length by omega,jQ,A5,Il (hw.k i hi4).1,Il (hx.k i hi4).1,A9,B5 hi (by omega:w.AK.length<=9223372036854775807),
  BR (NM.2 a),BR<|NM.2 b,FU,A7]
def kK{ev:List Event}(h:¬2000<ev.length){c:Nat}(hc:c<=ev.length):Ch (ev.take c)=Ci rv0 (ev.take c)/\Ch ev=Ci (Ci rv0<|ev.take c) (ev.drop c):=by
 unfold Ch;rw[AD h,AD (by rw[Cw];omega),← jl,JH];exact⟨rfl,rfl⟩
def awQ{l m:List Int}(hb:BOk l)(hm:BOk m):Ui (l,m,())=I ((A0,()),()):=by
 obtain⟨ev,hd,hl,ht⟩:=OJ hb;unfold Ui;apply Tot.val;refine Tot.ite (λ_=>Tot.ret rfl) (λ_=>Tot.bind (Tot.eq hd) λr1 h1=> ?_);subst h1;refine Tot.bind (aEr (ev:=ev) hl hm) λr2 h2=> ?_;obtain⟨c,rfl,hc,hc2⟩:=h2;have hb2:(A1 ((0:Int)<=(c:Int))&&A1 ((c:Int)<=(ev.length:Int)))=A0:=by rw[AE,decide_eq_true_eq,decide_eq_true_eq];omega
 have hl':(ev.take c).length<=4294967296:=by rw[Cw];omega
 refine Tot.pos hb2 (Tot.bind (Tot.eq<|Nu hl'<|YC ht c) λr3 h3=>Tot.pos hb2<|Tot.bind (Tot.eq<|KK hl'<|YC ht c) λr4 h4=>Tot.bind (Tot.eq<|KK J ht) λr5 h5=> ?_);subst h3 h4 h5;have same:=OB<|Ml<|ev.take c;refine Tot.bind (Tot.eq same) λr9 h9=> ?_;subst h9;refine Tot.ite (λ_=>Tot.bind (Tot.eq same) λr10 h10=>by subst h10;exact Tot.ret rfl) (λhn=> ?_);have hn:(!true||decide (2000<(ev.length:Int)))=A3:=hn;have hn:¬2000<ev.length:=by
  simp at hn;omega
 obtain⟨p1,p2⟩:=kK hn hc;have lat:Ik (Ch<|ev.take c) (Ch ev):=by
  rw[p1,p2];obtain⟨a,b⟩:=XP OZ R3 (l:=ev.take c);exact apv a b
 exact Tot.sum (P:=λ_=>False) (Q:=λ_=>True) ⟨_,aqp (Fe<|Mn _).1 (Fe<|Mn _).1 lat,trivial⟩ (λ_ h=>h.elim) λ_ _=>Tot.ret rfl
end Go.VS
end
end
