/- Part 22. -/
import Derived.Test.YtplahhbealfpcaaGreatDoorQAU
set_option linter.unusedVariables false
set_option linter.unusedSimpArgs false
set_option linter.defProp false
open Bool renaming and_eq_false_iff->TQ,and_eq_true->AE,false->A3,false_and->AO,not_false->AI,not_true->AB,or_eq_false_iff->NC,true->A0,true_and->AW
open Decidable renaming decide->A1
open Int renaming mul_le_mul_of_nonneg_left->aBU,mul_nonneg->Qf,tdiv->Ax,tdiv_eq_ediv_of_nonneg->Fv,toNat->AL,toNat_of_nonneg->NI
open List renaming getD_eq_getElem?_getD->B9,getElem?_eq_getElem->Av,getElem_mem->CJ,length_take->Cw,mem_of_mem_take->Gx,take->BH,take_append_drop->JH,take_of_length_le->Ie
open Nat renaming le_refl->As,zero_le->Cu
open Option renaming bind_some->A9,getD_some->DO,isSome_some->DY,none->U,some->I
section
set_option linter.all false
noncomputable section
namespace Go.VS
open Go Go.Proofs
set_option maxRecDepth 100000
def aom:Cx:=cX [] [] [(9,11)]
def aph:OKC Tryz.prog aom AF:=okc mixed<|AJ
def WC(x:List Event×List Int×A2):Option ((Int×A2)×A2):=if(A1<|(x.2.1.length:Int)=0)||(A1<|2000<(x.1.length:Int)) then I ((0,()),()) else if inb 0 x.2.1.length then let a:=(w64<|Ax (w64<|(x.1.length:Int) * (w64<|rd (dfl .u8) x.2.1 0)) 256);I ((a,()),()) else U
def iP:Ent:=(16,U,⟨[.fz .BK,.fz .u8],[.int .i64],WC⟩)
def ua:SQ Tryz.prog iP:=sk (v:= .nil) (fn:=Tryz.f16) aph kN
def aov:Cx:=cX [S6] [] []
def aAL:OKC Tryz.prog aov AF:=okc mixed<|gC Uu<|AJ
def fM(x:List A6×List A6×Int×Int×A2):Rnd (List A6×List A6×Int×Int×A2) (Bool×A2) (List A6×A2):=if A1 (x.2.2.2.1<x.2.2.1) then if inb x.2.2.2.1 x.2.1.length then let a:=(rd (dfl .note) x.2.1 x.2.2.2.1).fr;let b:=(rd (dfl .note) x.2.1 x.2.2.2.1).nu;let c:=(rd (dfl .note) x.2.1 x.2.2.2.1).to;let d:=(rd (dfl .note) x.2.1 x.2.2.2.1).un;let e:=(rd (dfl .note) x.2.1 x.2.2.2.1).tx;(OA ((a,b,c,d,e,()),())).bind λf=>if !f.1.1 then I (.inr<|.inl (A3,())) else I (.inl (x.1,x.2.1,x.2.2.1,(w64<|x.2.2.2.1+1),())) else U else I (.inr<|.inr (x.1,()))
def rF:=AR fM
def xn:Loop:=⟨[(0,.sl .note),(5,.sl .note),(6,.int .i64),(7,.int .i64)],[(0,.sl .note)],0,[(2,.bool)],rF⟩
def ao3:LF Tryz.f55 [] [1,0,1,0,0] xn:=sq (v:= .nil) aAL (b:=fM) kN
def WA(x:List A6×A2):Option ((Bool×A2)×A2):=(AM (rF (x.1,x.1,(x.1.length:Int),0,())) (λa=>I (a,())) (λa=>let b:=(A1<|(a.1.length:Int)<=6);I ((b,()),())))
def aAA:Ent:=(55,U,⟨[.fz .note],[.bool],WA⟩)
def aiU:SQ Tryz.prog aAA:=sk (v:=t1<|.two (t1<|.one<|.loop xn) .nil) (fn:=Tryz.f55) aAL<|kC ao3 kN
def alX:Cx:=cX [JY,Ir,F3,aAA] [] [(54,56)]
def gN:OKC Tryz.prog alX AF:=okc mixed<|gC KD<|gC JT<|gC FK<|gC aiU<|AJ
def dK(x:List AS×Int×Int×A2):Rnd (List AS×Int×Int×A2) (Bool×A2) (A2):=if A1 (x.2.2.1<x.2.1) then if inb x.2.2.1 x.1.length then let a:=(rd (dfl .An) x.1 x.2.2.1).src;let b:=(rd (dfl .An) x.1 x.2.2.1).dst;let c:=(rd (dfl .An) x.1 x.2.2.1).data;let f:=(rd (dfl .An) x.1 x.2.2.1).sp;(FJ (a,())).bind λd=>if !d.1.1 then I (.inr<|.inl (A3,())) else(FJ (b,())).bind λe=>if !e.1.1 then I (.inr<|.inl (A3,())) else if !decide ((w64<|a - b)=1) then if !decide ((w64<|b - a)=1) then I (.inr<|.inl (A3,())) else if A1 (40<(c.size:Int)) then I (.inr<|.inl (A3,())) else I (.inl (x.1,x.2.1,(w64<|x.2.2.1+1),())) else if A1 (40<(c.size:Int)) then I (.inr<|.inl (A3,())) else I (.inl (x.1,x.2.1,(w64<|x.2.2.1+1),())) else U else I (.inr<|.inr ())
def q7:=AR dK
def vj:Loop:=⟨[(60,.sl .An),(61,.int .i64),(62,.int .i64)],[],2,[(2,.bool)],q7⟩
def aki:LF Tryz.f31 [] [1,1,1,0,1,0,0] vj:=sq (v:= .nil) gN (b:=dK) kN
def dL(x:Y2×List AA×Int×Int×A2):Rnd (Y2×List AA×Int×Int×A2) (Bool×A2) (Y2×A2):=if A1 (x.2.2.2.1<x.2.2.1) then if inb x.2.2.2.1 x.2.1.length then let a:=(rd (dfl .AQ) x.2.1 x.2.2.2.1).id;let b:=(rd (dfl .AQ) x.2.1 x.2.2.2.1).up;let c:=(rd (dfl .AQ) x.2.1 x.2.2.2.1).log;let d:=(rd (dfl .AQ) x.2.1 x.2.2.2.1).fo;let e:=(rd (dfl .AQ) x.2.1 x.2.2.2.1).AN;if Ak (!(!decide (a=x.2.2.2.1))) ((Hk ((a,b,c,d,e,()),())).isSome) then if(!decide (a=x.2.2.2.1))||(!(((Hk ((a,b,c,d,e,()),())).getD ((A3,()),())).1.1)) then I (.inr<|.inl (A3,())) else I (.inl (x.1,x.2.1,x.2.2.1,(w64<|x.2.2.2.1+1),())) else U else U else I (.inr<|.inr (x.1,()))
def q8:=AR dL
def vk:Loop:=⟨[(1,Z29),(42,.sl .AQ),(43,.int .i64),(44,.int .i64)],[(1,Z29)],0,[(2,.bool)],q8⟩
def akH:LF Tryz.f31 [] [1,1,0,1,0,0] vk:=sq (v:= .nil) gN (b:=dL) kN
def Ro(x:Y2×A2):Option ((Bool×A2)×A2):=(By (x.1.1,0,99999,())).bind λc=>if !c.1.1 then I ((A3,()),()) else if !decide ((x.1.2.1.length:Int)=4) then I ((A3,()),()) else if !decide ((x.1.2.2.1.length:Int)=3) then I ((A3,()),()) else if A1 (30<(x.1.2.2.2.1.length:Int)) then I ((A3,()),()) else(WA (x.1.2.2.2.2.1,())).bind λd=>if !d.1.1 then I ((A3,()),()) else(WA x.1.2.2.2.2.2).bind λe=>if !e.1.1 then I ((A3,()),()) else(AM (q8 (x.1,x.1.2.1,(x.1.2.1.length:Int),0,())) (λa=>I (a,())) λa=>(AM (q7 (a.1.2.2.2.1,(a.1.2.2.2.1.length:Int),0,())) (λb=>I (b,())) λb=>I ((A0,()),())))
def gH:Ent:=(31,U,⟨[Z30],[.bool],Ro⟩)
def sd:SQ Tryz.prog gH:=sk (v:=t1<|t1<|.two (t1<|.one<|.loop vk)<|.two (t1<|.one<|.loop vj) .nil) (fn:=Tryz.f31) gN<|kC akH<|kC aki kN
def alY:Cx:=cX [gG,gH] [] []
def aml:OKC Tryz.prog alY AF:=okc mixed<|gC sQ<|gC sd<|AJ
def Vf(x:Y2×Y6×A2):Option ((Y2×Bool×A2)×A2):=(Ro (x.1,())).bind λa=>if !a.1.1 then I (((0,([]:List AA),([]:List Bool),([]:List AS),([]:List A6),([]:List A6),()),A3,()),()) else(Rm x).bind λb=>I (b.1,())
def yd:Ent:=(18,U,⟨[Z30,Z13],[Z3,.bool],Vf⟩)
def ag2:SQ Tryz.prog yd:=sk (v:= .nil) (fn:=Tryz.f18) aml kN
def afV:Cx:=cX [MR,Mc,Md,MX,iP,yd] [] [(14,16),(35,37)]
def tv:OKC Tryz.prog afV AF:=okc mixed<|gC Np<|gC Nr<|gC Ns<|gC Nw<|gC ua<|gC ag2<|AJ
def aj(x:List Event×Y2×Y2×Int×A2):Rnd (List Event×Y2×Y2×Int×A2) (A2) (List Event×Y2×Y2×A2):=if(A1<|x.2.2.2.1<(x.1.length:Int))&&(A1<|(x.1.length:Int)<=2000) then if inb x.2.2.2.1 x.1.length then(Vf (x.2.2.1,((rd (dfl .BK) x.1 x.2.2.2.1).ki,(rd (dfl .BK) x.1 x.2.2.2.1).at_,(rd (dfl .BK) x.1 x.2.2.2.1).fr,(rd (dfl .BK) x.1 x.2.2.2.1).nu,(rd (dfl .BK) x.1 x.2.2.2.1).wo,(rd (dfl .BK) x.1 x.2.2.2.1).mix,(rd (dfl .BK) x.1 x.2.2.2.1).kp,(rd (dfl .BK) x.1 x.2.2.2.1).to,(rd (dfl .BK) x.1 x.2.2.2.1).un,(rd (dfl .BK) x.1 x.2.2.2.1).tx,()),())).bind λa=>I (.inl (x.1,x.2.1,a.1.1,(w64<|x.2.2.2.1+1),())) else U else I (.inr<|.inr (x.1,x.2.1,x.2.2.1,()))
def oY:=AR aj
def ad4:Loop:=⟨[(5,.sl .BK),(6,Z2),(8,Z2),(9,.int .i64)],[(5,.sl .BK),(6,Z2),(8,Z2)],0,[],oY⟩
def afD:LF Tryz.f9 [] [1,1,1,1,1,1,0,1,0,0] ad4:=sq (v:= .nil) tv (b:=aj) kN
def Ub(x:List Int×List Int×A2):Option ((Bool×A2)×A2):=if(A1<|1048576<(x.1.length:Int))||(A1<|1048576<(x.2.1.length:Int)) then I ((A0,()),()) else(JU (x.1,())).bind λa=>(KJ a.1).bind λd=>(WC (a.1.1,x.2)).bind λb=>if A1 (0<=b.1.1)&&A1 (b.1.1<=(a.1.1.length:Int)) then(II ((BH (AL b.1.1) a.1.1),())).bind λe=>(AM (oY (a.1.1,d.1.1,e.1.1,b.1)) (λ_=>U) λc=>(It (c.2.2.1,c.2.1,())).bind λf=>if f.1.1 then(II (c.1,())).bind λg=>(It (g.1.1,c.2.1,())).bind λh=>I (h.1,()) else I ((A3,()),())) else U
def afg:Ent:=(9,U,⟨[.fz .u8,.fz .u8],[.bool],Ub⟩)
def adl:SQ Tryz.prog afg:=sk (v:=t1<|t1<|t1<|t1<|t1<|t1<|.two (t1<|.one<|.loop ad4) .nil) (fn:=Tryz.f9) tv<|kC afD kN
end Go.VS
end
end
section
set_option linter.all false
noncomputable section
namespace Go.VS
open Go
def aAG{l:List A6}(hl:l.length<=1048576)(h:∀x∈l,G2 x):WA (l,())=I ((Gt l&&A1 ((l.length:Int)<=6),()),()):=by
 have Fz:rF (l,l,(l.length:Int),0,())=I (if Gt l then .inr (l,()) else .inl (A3,())):=
  Cm (λi=>(l,l,(l.length:Int),(i:Int),())) l.length (λi=>B4<|nA l i) (A3,()) (l,()) (λi hi=>by
   unfold fM;simp only[B7 hi,AP hi,A5,Cc,Vy<|Tj h i,A9,B5 hi (by omega:l.length<=9223372036854775807)];rcases tf (B4<|nA l i) with e|e<;>simp only[e]<;>rfl) (by simp[fM])
 unfold WA;simp only[Fz];rcases tf (Gt l) with e|e<;>simp only[e]<;>rfl
def akO{w:YR}{ks:List AA}(kl:ks.length<=1048576)(k:∀x∈ks,FN x):
  q8 (w,ks,(ks.length:Int),0,())=I (if At ks.length (JA ks) then .inr (w,()) else .inl (A3,())):=
 Cm (λi=>(w,ks,(ks.length:Int),(i:Int),())) ks.length (JA ks) (A3,()) (w,()) (λi hi=>by
  have hk:=KG<|Qj k i;unfold dL JA;simp only[B7 hi,AP hi,A5,SH,hk,DY,DO,GK,B5 hi (by omega:ks.length<=9223372036854775807)];rcases tfp ((kA ks i).id=(i:Int)) with e|e<;>rcases tf (Ah<|kA ks i) with e2|e2<;>simp only[e,e2,AU,Ae]<;>rfl) (by simp[dL])
def wY{ra:List AS}(rl:ra.length<=1048576):
  q7 (ra,(ra.length:Int),0,())=I (if At ra.length (λi=>E3<|pA ra i) then .inr () else .inl (A3,())):=
 Cm (λi=>(ra,(ra.length:Int),(i:Int),())) ra.length (λi=>E3<|pA ra i) (A3,()) () (λi hi=>by
  unfold dK E3;simp only[B7 hi,AP hi,A5,aBw,Jb,A9,B5 hi (by omega:ra.length<=9223372036854775807)];rcases tf (isN (pA ra i).src) with e|e<;>rcases tf (isN (pA ra i).dst) with e2|e2<;>simp only[e,e2,AB,AI,A5,A7,AW,AO];simp only[XV e e2,XV e2 e];rcases tfp ((pA ra i).src - (pA ra i).dst=1) with e3|e3<;>rcases tfp ((pA ra i).dst - (pA ra i).src=1) with e4|e4<;>rcases ET ((pA ra i).data.size:Int) 40 with⟨e5,e6⟩|⟨e5,e6⟩<;>simp only[e3,e4,e5,e6,AU,Ae]<;>rfl) (by simp[dK])
def xo{ti:Int}{ks:List AA}{ls:List Bool}{ra:List AS}{se go:List A6}(sm:IC ks ls ra se go):
  Ro ((ti,ks,ls,ra,se,go,()),())=I ((HD ti ks ls ra se go,()),()):=by
 unfold Ro HD;simp only[ED,aAG sm.sl sm.s,aAG sm.gl sm.g,akO sm.kl sm.k,wY sm.rl,A9];rcases tf (inB ti 0 99999) with e|e<;>simp only[e,AB,AI,A5,A7,AW,AO];rcases tfp ((ks.length:Int)=4) with e|e<;>simp only[e,AU,Ae,AB,AI,A5,A7,AW,AO];rcases tfp ((ls.length:Int)=3) with e|e<;>simp only[e,AU,Ae,AB,AI,A5,A7,AW,AO];rcases ET (ra.length:Int) 30 with⟨e1,e2⟩|⟨e1,e2⟩<;>simp only[e1,e2,AU,Ae,A5,A7,AW,AO];rcases tf (Gt se&&A1 ((se.length:Int)<=6)) with e|e<;>simp only[e,AB,AI,A5,A7,AW,AO];rcases tf (Gt go&&A1 ((go.length:Int)<=6)) with e|e<;>simp only[e,AB,AI,A5,A7,AW,AO];rcases tf (At ks.length<|JA ks) with e|e<;>simp only[e,A5,A7,AW,AO,Gk,CR];rw[wY sm.rl];rcases tf (At ra.length λi=>E3<|pA ra i) with e|e<;>simp only[e,A5,A7,Gk,CR]
end Go.VS
end
end
section
set_option linter.all false
noncomputable section
namespace Go.VS
open Go
def amf{w:AX}(sm:SmR w){e:Event}(ht:e.tx.size<=1048576):Vf (tR w,tE e,())=I ((tR (I6 w e).1,(I6 w e).2,()),()):=by
 unfold Vf I6;rw[show Ro ((tR w,tE e,()).1,())=_ from xo sm];simp only[A9];rcases tf (DW w) with c|c
 .have hw:=Fe c;rw[xl hw.1 hw.2.1 hw.2.2 ht];simp only[show HD w.ti w.AK w.B2 w.Ai w.Ab w.got=A0 from c,AB,A7,A5,A9]
 .simp only[show HD w.ti w.AK w.B2 w.Ai w.Ab w.got=A3 from c,AI,A7,A5]
end Go.VS
end
end
section
set_option linter.all false
noncomputable section
namespace Go.VS
open Go
def aEr{ev:List Event}{m:List Int}(hl:ev.length<=1048576)(hb:BOk m):Tot (WC (ev,m,())) λr=>∃c:Nat,r=((((c:Int),()),()):(Int×A2)×A2)/\c<=ev.length/\(2000<ev.length->c=0):=by
 unfold WC;refine Tot.ite (λ_=>Tot.ret ⟨0,rfl,Cu _,λ_=>rfl⟩) (λhc=> ?_);rw[NC,decide_eq_false_iff_not,decide_eq_false_iff_not]at hc;have hm:0<m.length:=by have h:¬(m.length:Int)=0:=hc.1;omega
 have h2:¬(2000:Int)<(ev.length:Int):=hc.2;refine Tot.pos (AP hm)<|Tot.ret ?_;obtain⟨b,eb,b0,b1⟩:∃b,@rd Int (dfl .u8) m 0=b/\0<=b/\b<=255:=by
  refine⟨_,rfl, ?_⟩;have e: @rd Int (dfl .u8) m 0=m[0]:=by
   unfold rd;rw[B9,show AL 0=0 from rfl,Av hm];rfl
  rw[e];exact hb _<|CJ hm
 simp only[eb];have hp0:0<=(ev.length:Int) * b:=Qf J b0;have hp1:(ev.length:Int) * b<=(ev.length:Int) * 256:=aBU J J;rw[AZ (n:=b) J J,AZ (n:=(ev.length:Int) * b) J J,Fv hp0];have hd0:0<=(ev.length:Int) * b / 256:=Int.ediv_nonneg hp0 J;have hd1:(ev.length:Int) * b / 256<=(ev.length:Int):=J
 rw[AZ J J];exact⟨((ev.length:Int) * b / 256).toNat,by rw[NI hd0],J,λh=>by omega⟩
def YC{ev:List Event}(ht:∀e∈ev,e.tx.size<=1048576)(c:Nat):∀e∈ev.take c,e.tx.size<=1048576:=λe he=>ht e<|Gx he
def kK{ev:List Event}(h:¬2000<ev.length){c:Nat}(hc:c<=ev.length):Ch (ev.take c)=Ci rv0 (ev.take c)/\Ch ev=Ci (Ci rv0<|ev.take c) (ev.drop c):=by
 unfold Ch;rw[AD h,AD (by rw[Cw];omega),← jl,JH];exact⟨rfl,rfl⟩
def asd{ev:List Event}(hl:ev.length<=1048576)(ht:∀e∈ev,e.tx.size<=1048576){c:Nat}(hc:c<=ev.length)(hc2:2000<ev.length->c=0):
  Tot (oY (ev,tR<|Ch ev,tR<|Ch<|ev.take c,(c:Int),())) (Rn (λ_=>False) λs=>s=(ev,tR<|Ch ev,tR<|Ch ev,())):=by
 by_cases hn:2000<ev.length
 .have c0:=hc2 hn;subst c0;have e:Ch (ev.take 0)=Ch ev:=by
   unfold Ch;rw[A8 hn,AD<|by simp];rfl
  rw[e];refine Tot.loop (λi s=>s=(ev,tR<|Ch ev,tR<|Ch ev,(0:Int),())) _ 0 (λi s hi hs=> ?_) rfl;subst hs;unfold aj;refine Tot.neg ?_<|Tot.ret rfl;rw[TQ,decide_eq_false_iff_not,decide_eq_false_iff_not];right;show ¬((ev.length:Int)<=2000);omega
 .obtain⟨p1,_⟩:=kK hn hc;obtain⟨_,p2⟩:=kK hn<|As _;rw[p1];refine Tot.loop (λi s=>s=(ev,tR<|Ch ev,tR<|Ci rv0<|ev.take<|c+i,((c+i:Nat):Int),())) _ (ev.length - c) (λi s hi hs=> ?_) rfl;subst hs;unfold aj;refine Tot.ite (λh=> ?_) (λh=> ?_)
  .rw[AE,decide_eq_true_eq]at h;have h:((c+i:Nat):Int)<(ev.length:Int):=h.1;have hi':c+i<ev.length:=J
   refine Tot.pos (AP hi') (Tot.bind (Tot.eq<|show Vf (tR<|Ci rv0<|ev.take<|c+i,tE<|evA ev<|c+i,())=_ from amf (aaN _)<|mX ht hi') λr11 h11=>Tot.ret ⟨J, ?_⟩);subst h11;rw[show w64 (((c+i:Nat):Int)+1)=((c+i+1:Nat):Int) from Ka rfl J,show c+(i+1)=c+i+1 from rfl,jR hi'];rfl
  .refine Tot.ret ?_;have h:(A1 (((c+i:Nat):Int)<(ev.length:Int))&&A1 ((ev.length:Int)<=2000))=A3:=h;rw[TQ,decide_eq_false_iff_not,decide_eq_false_iff_not]at h;have e:Ch ev=Ci rv0 (ev.take<|c+i):=by
    rw[Ie J];unfold Ch;rw[AD hn]
   rw[e];exact rfl
def axI{l m:List Int}(hb:BOk l)(hm:BOk m):Ub (l,m,())=I ((A0,()),()):=by
 obtain⟨ev,hd,hl,ht⟩:=OJ hb;unfold Ub;apply Tot.val;refine Tot.ite (λ_=>Tot.ret rfl) (λ_=>Tot.bind (Tot.eq hd) λr1 h1=> ?_);subst h1;refine Tot.bind (Tot.eq<|Nu J ht) λr2 h2=> ?_;subst h2;refine Tot.bind (aEr (ev:=ev) hl hm) λr3 h3=> ?_;obtain⟨c,rfl,hc,hc2⟩:=h3;have hb2:(A1 ((0:Int)<=(c:Int))&&A1 ((c:Int)<=(ev.length:Int)))=A0:=by rw[AE,decide_eq_true_eq,decide_eq_true_eq];omega
 have hl':(ev.take c).length<=4294967296:=by rw[Cw];omega
 refine Tot.pos hb2 (Tot.bind (Tot.eq<|KK hl'<|YC ht c) λr4 h4=> ?_);subst h4;have same:=OB<|Ml ev;refine Tot.sum (P:=λ_=>False) (Q:=λs=>s=(ev,tR<|Ch ev,tR<|Ch ev,())) ?_ (λ_ h=>h.elim) (λy hy=> ?_)
 .exact asd hl ht hc hc2
 .subst hy;refine Tot.bind (Tot.eq same) λr16 h16=> ?_;subst h16;refine Tot.pos rfl (Tot.bind (Tot.eq<|KK (l:=ev) J ht) λr17 h17=> ?_);subst h17;refine Tot.bind (Tot.eq same) λr18 h18=> ?_;subst h18;exact Tot.ret rfl
end Go.VS
end
end
