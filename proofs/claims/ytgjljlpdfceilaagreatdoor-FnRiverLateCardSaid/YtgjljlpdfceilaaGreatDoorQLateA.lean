/- Part 22. -/
import Derived.Test.YtgjljlpdfceilaaGreatDoorQAU
set_option linter.unusedVariables false
set_option linter.unusedSimpArgs false
set_option linter.defProp false
open Bool renaming and_eq_true->AG,eq_iff_iff->Ke,false->A3,not_eq_true'->C1,or_eq_false_iff->Mk,or_eq_true->Br,true->U
open Decidable renaming decide->A1
open Int renaming le_trans->J7,mul_nonneg->Ur,tdiv->B5,tdiv_eq_ediv_of_nonneg->Gj,toNat->AR,toNat_natCast->BZ,toNat_of_nonneg->Nq
open List renaming getD_eq_getElem?_getD->BC,getElem?_eq_getElem->Au,getElem_mem->CV,getElem_of_mem->Cy,length_take->DU,mem_append->BN,mem_append_left->By,mem_append_right->CU,mem_of_mem_drop->Jr,mem_of_mem_take->Hb,mem_singleton->CA,mem_singleton_self->Ml,take->BS,take_append_drop->JA
open Nat renaming lt_or_ge->Gm,not_lt_zero->pH,zero_le->D7
open Option renaming bind_some->A9,getD_some->D0,isSome_some->D8,none->A0,some->I
section
set_option linter.all false
noncomputable section
namespace Go.VS
open Go Go.Proofs
set_option maxRecDepth 100000
def aq0:Cx:=cX [] [] [(9,11)]
def aqm:OKC Tryz.prog aq0 AI:=okc mixed<|AL
def YF(x:List Event×List Int×A2):Option ((Int×A2)×A2):=if(A1<|(x.2.1.length:Int)=0)||(A1<|2000<(x.1.length:Int)) then I ((0,()),()) else if inb 0 x.2.1.length then let a:=(w64<|B5 (w64<|(x.1.length:Int) * (w64<|rd (dfl .u8) x.2.1 0)) 256);I ((a,()),()) else A0
def aDl:Ent:=(13,A0,⟨[.fz .CO,.fz .u8],[.int .i64],YF⟩)
def ahn:SQ Tryz.prog aDl:=sk (v:= .nil) (fn:=Tryz.f13) aqm kN
def apz:Cx:=cX [] [] []
def aDu:OKC Tryz.prog apz AI:=okc mixed<|AL
def la(x:List A6×Y4×Int×A2):Rnd (List A6×Y4×Int×A2) (Bool×A2) (A2):=if A1 (x.2.2.1<(x.1.length:Int)) then if inb x.2.2.1 x.1.length then if Mz ((rd (dfl .note) x.1 x.2.2.1).fr) ((rd (dfl .note) x.1 x.2.2.1).nu) ((rd (dfl .note) x.1 x.2.2.1).to) ((rd (dfl .note) x.1 x.2.2.1).un) ((rd (dfl .note) x.1 x.2.2.1).tx) x.2.1.1 x.2.1.2.1 x.2.1.2.2.1 x.2.1.2.2.2.1 x.2.1.2.2.2.2.1 then I (.inr<|.inl (U,())) else I (.inl (x.1,x.2.1,(w64<|x.2.2.1+1),())) else A0 else I (.inr<|.inr ())
def aA3:=AW la
def aBc:Loop:=⟨[(0,.sl .note),(3,Z5),(5,.int .i64)],[],0,[(4,.bool)],aA3⟩
def ap7:LF Tryz.f19 [] [1,0,1,0,0] aBc:=sq (v:= .nil) aDu (b:=la) kN
def K8(x:List A6×Y4×A2):Option ((Bool×A2)×A2):=(AP (aA3 (x.1,x.2.1,0,())) (λa=>I (a,())) λa=>I ((A3,()),()))
def YN:Ent:=(19,A0,⟨[.fz .note,Z6],[.bool],K8⟩)
def wN:SQ Tryz.prog YN:=sk (v:=t1<|.two (t1<|.one<|.loop aBc) .nil) (fn:=Tryz.f19) aDu<|kC ap7 kN
def adt:Cx:=cX [QD,aDl,QJ,QK,QL,Qa,IA,YN] [] [(19,21),(44,46),(75,78),(91,94),(102,104)]
def ya:OKC Tryz.prog adt AI:=okc mixed<|gC SV<|gC ahn<|gC SW<|gC SZ<|gC Sa<|gC Sb<|gC Ic<|gC wN<|AL
def uK(x:Y2×Y2×Int×A2):Rnd (Y2×Y2×Int×A2) (Bool×A2) (A2):=if A1 (x.2.2.1<(x.1.2.2.2.2.1.length:Int)) then if inb x.2.2.1 x.1.2.2.2.2.1.length then let c:=(rd (dfl .note) x.1.2.2.2.2.1 x.2.2.1).fr;let d:=(rd (dfl .note) x.1.2.2.2.2.1 x.2.2.1).nu;let a:=(rd (dfl .note) x.1.2.2.2.2.1 x.2.2.1).to;let b:=(rd (dfl .note) x.1.2.2.2.2.1 x.2.2.1).un;let e:=(rd (dfl .note) x.1.2.2.2.2.1 x.2.2.1).tx;if inb a x.1.2.1.length then(FF (((rd (dfl .AN) x.1.2.1 a).id,(rd (dfl .AN) x.1.2.1 a).up,(rd (dfl .AN) x.1.2.1 a).log,(rd (dfl .AN) x.1.2.1 a).fo,(rd (dfl .AN) x.1.2.1 a).AM,()),())).bind λf=>(K8 (f.1.1.2.2.2.2.2.1,(c,d,a,b,e,()),())).bind λg=>if Ah (!g.1.1) ((K8 (x.1.2.2.2.2.2.1,(c,d,a,b,e,()),())).isSome) then let i:=(g.1.1||(((K8 (x.1.2.2.2.2.2.1,(c,d,a,b,e,()),())).getD ((A3,()),())).1.1));(if inb a x.2.1.2.1.length then(FF (((rd (dfl .AN) x.2.1.2.1 a).id,(rd (dfl .AN) x.2.1.2.1 a).up,(rd (dfl .AN) x.2.1.2.1 a).log,(rd (dfl .AN) x.2.1.2.1 a).fo,(rd (dfl .AN) x.2.1.2.1 a).AM,()),())).bind λj=>(K8 (j.1.1.2.2.2.2.2.1,(c,d,a,b,e,()),())).bind λh=>if Ah (!h.1.1) ((K8 (x.2.1.2.2.2.2.2.1,(c,d,a,b,e,()),())).isSome) then let k:=(h.1.1||(((K8 (x.2.1.2.2.2.2.2.1,(c,d,a,b,e,()),())).getD ((A3,()),())).1.1));(if(A1<|b<=f.1.1.2.1)&&(!decide (i=k)) then I (.inr<|.inl (A3,())) else I (.inl (x.1,x.2.1,(w64<|x.2.2.1+1),()))) else A0 else A0) else A0 else A0 else A0 else I (.inr<|.inr ())
def sx:=AW uK
def ac3:Loop:=⟨[(8,Z2),(9,Z29),(10,.int .i64)],[],0,[(4,.bool)],sx⟩
def aeJ:LF Tryz.f3 [] [1,1,1,1,1,1,1,1,0,1,0,0] ac3:=sq (v:= .nil) ya (b:=uK) kN
def W5(x:List Int×List Int×A2):Option ((Bool×A2)×A2):=if(A1<|1048576<(x.1.length:Int))||(A1<|1048576<(x.2.1.length:Int)) then I ((U,()),()) else(Lx (x.1,())).bind λa=>(YF (a.1.1,x.2)).bind λb=>if A1 (0<=b.1.1)&&A1 (b.1.1<=(a.1.1.length:Int)) then(N9 ((BS (AR b.1.1) a.1.1),())).bind λd=>if A1 (0<=b.1.1)&&A1 (b.1.1<=(a.1.1.length:Int)) then(M0 ((BS (AR b.1.1) a.1.1),())).bind λc=>(M0 a.1).bind λf=>(L8 (f.1.1,2,())).bind λg=>(M5 (c.1.1,d.1)).bind λh=>if(!h.1.1)||(A1<|2000<(a.1.1.length:Int)) then(M5 (c.1.1,d.1)).bind λi=>I (i.1,()) else(AP (sx (c.1.1,g.1.1,0,())) (λe=>I (e,())) λe=>I ((U,()),())) else A0 else A0
def afK:Ent:=(3,A0,⟨[.fz .u8,.fz .u8],[.bool],W5⟩)
def acY:SQ Tryz.prog afK:=sk (v:=t1<|t1<|t1<|t1<|t1<|t1<|t1<|t1<|.two (t1<|.one<|.loop ac3) .nil) (fn:=Tryz.f3) ya<|kC aeJ kN
end Go.VS
end
end
section
set_option linter.all false
noncomputable section
namespace Go.VS
open Go
def PD{l:List A6}{n:A6}(hl:l.length<=1000):Tot (K8 (l,(n.fr,n.nu,n.to,n.un,n.tx,()),())) λr=>r.1.1=U↔n∈l:=by
 unfold K8;refine Tot.sum (P:=λy=>y.1=U/\n∈l) (Q:=λ_=>n ∉ l) ?_ (λy hy=>Tot.ret ⟨λ_=>hy.2,λ_=>hy.1⟩) (λy hy=>Tot.ret ⟨(λh=>by cases h),λh=>absurd h hy⟩);refine Tot.loop (λi s=>s=(l,(n.fr,n.nu,n.to,n.un,n.tx,()),(i:Int),())/\ ∀j,j<i->nA l j≠n) _ l.length (λi s hi hs=> ?_) ⟨rfl,λj hj=>absurd hj<|pH _⟩;obtain⟨rfl,hs⟩:=hs;unfold la;refine Tot.ite (λhc=> ?_) (λhc=> ?_)
 .have hc:(i:Int)<(l.length:Int):=BX hc;have hi':i<l.length:=J
  refine Tot.pos (AU hi') (Tot.ite (λhe=>Tot.ret ⟨rfl, ?_⟩) λhe=>Tot.ret ⟨hi',by rw[show w64 ((i:Int)+1)=_ from LY rfl J],λj hj=> ?_⟩)
  .have he:Mz (nA l i).fr (nA l i).nu (nA l i).to (nA l i).un (nA l i).tx n.fr n.nu n.to n.un n.tx=U:=he;unfold Mz at he;simp only[AG,decide_eq_true_eq]at he;have:nA l i=n:=by
    cases hN:nA l i;cases n;rw[hN]at he;simp only at he;obtain⟨rfl,rfl,rfl,rfl,rfl,_⟩:=he;rfl
   rw[← this];exact EZ hi'
  .rcases Gm j i with h|h
   .exact hs j h
   .have:j=i:=J
    subst this;intro e;have he:Mz (nA l j).fr (nA l j).nu (nA l j).to (nA l j).un (nA l j).tx n.fr n.nu n.to n.un n.tx=A3:=he;rw[e]at he;unfold Mz at he;simp at he
 .have hc:¬(i:Int)<(l.length:Int):=J3 hc;refine Tot.ret λhn=> ?_;obtain⟨j,hj,e⟩:=Cy hn;refine hs j J ?_;rw[← e,nA,BC,Au hj];rfl
end Go.VS
end
end
section
set_option linter.all false
noncomputable section
namespace Go.VS
open Go
def atg{w:AE}{e:Event}(v:Inv w)(ok:B7 w):ab5 w (CZ w e):=by
 have h:=(U5 v ok e).later ok;unfold CZ tick;split<;>exact h
def ax3{ev:List Event}{m:List Int}(hl:ev.length<=1048576)(hb:BOk m):Tot (YF (ev,m,())) λr=>∃c:Nat,r=((((c:Int),()),()):(Int×A2)×A2)/\c<=ev.length/\(2000<ev.length->c=0):=by
 unfold YF;refine Tot.ite (λ_=>Tot.ret ⟨0,rfl,D7 _,λ_=>rfl⟩) (λhc=> ?_);rw[Mk,decide_eq_false_iff_not,decide_eq_false_iff_not]at hc;have hm:0<m.length:=by have h:¬(m.length:Int)=0:=hc.1;omega
 have h2:¬(2000:Int)<(ev.length:Int):=hc.2;refine Tot.pos (AU hm)<|Tot.ret ?_;obtain⟨b,eb,b0,b1⟩:∃b,@rd Int (dfl .u8) m 0=b/\0<=b/\b<=255:=by
  refine⟨_,rfl, ?_⟩;have e: @rd Int (dfl .u8) m 0=m[0]:=by
   unfold rd;rw[BC,show AR 0=0 from rfl,Au hm];rfl
  rw[e];exact hb _<|CV hm
 simp only[eb];have hp0:0<=(ev.length:Int) * b:=Ur J b0;have hp1:(ev.length:Int) * b<=(ev.length:Int) * 256:=Int.mul_le_mul_of_nonneg_left J J;rw[Ac (n:=b) J J,Ac (n:=(ev.length:Int) * b) J J,Gj hp0];have hd0:0<=(ev.length:Int) * b / 256:=Int.ediv_nonneg hp0 J;have hd1:(ev.length:Int) * b / 256<=(ev.length:Int):=J
 rw[Ac J J];exact⟨((ev.length:Int) * b / 256).toNat,by rw[Nq hd0],J,λh=>by omega⟩
def aJB{ev:List Event}(ht:∀e∈ev,e.tx.size<=1048576)(c:Nat):∀e∈ev.take c,e.tx.size<=1048576:=λe he=>ht e<|Hb he
def auq{ev:List Event}(h:¬2000<ev.length){c:Nat}(hc:c<=ev.length):C7 (ev.take c)=DZ rv0 (ev.take c)/\C7 ev=DZ (DZ rv0<|ev.take c) (ev.drop c):=by
 unfold C7;rw[AD h,AD (by rw[DU];omega),← ni,JA];exact⟨rfl,rfl⟩
def Bk.calm:∀(m:Nat) (w:AE),Bk w<|F8 m w
 | 0,w=>Bk.rfl w
 | m+1,w=>by
  unfold F8;split
  .exact(Bk.rnd w).trans (Bk.calm m _)
  .exact Bk.rfl w
def ay7{w:AE}(v:Inv w)(ok:B7 w){e:Event}{n:A6}(h:Ew w n):Ew (doM w e).1 n:=by
 obtain⟨i,k',a,s,_⟩:=U5 v ok e;have kl:=ok.kl;have hi:=s.hi;obtain h|h:=h
 .left;obtain⟨e,_⟩|⟨y,_,e⟩:=s.go<;>rw[e]
  .exact h
  .exact By _ h
 .unfold Ew sT;rw[s.ek,FO J];split
  .rename_i c;unfold sT at h;rw[c]at h;rcases s.m.box n h with g|g
   .exact .inr g
   .left;obtain⟨_,e⟩|⟨y,e1,e⟩:=s.go
    .exact absurd g (e n)
    .rw[e1]at g;cases g;rw[e];exact CU _ (Ml _)
  .exact .inr h
def atz{w:AE}(v:Inv w)(ok:B7 w){e:Event}{n:A6}(hn:B1 n=U)(ht:n.un<=(sT w n.to.toNat).ti)(h:Ew (doM w e).1 n):Ew w n:=by
 obtain⟨i,k',a,s,_⟩:=U5 v ok e;have kl:=ok.kl;have hi:=s.hi;have ends:=Qv hn;obtain h|h:=h
 .rcases s.go with⟨e,_⟩|⟨y,e1,e⟩<;>rw[e]at h
  .exact .inl h
  .rcases BN.1 h with h|h
   .exact .inl h
   .rw[CA.1 h];have hb:=(s.m.eat y e1).1;have ht:=(bu (FN ok hi) hb).1;rw[Gz ok hi]at ht;refine .inr ?_;rw[ht,BZ];exact hb
 .unfold Ew;unfold sT at h;rw[s.ek,FO J]at h;split at h
  .rename_i c;rcases s.m.OE n h with⟨g,_⟩|⟨g,_⟩
   .right;rw[c];exact g
   .have:=(s.m.new n g).1;rw[c]at ht;unfold sT at ht;omega
  .exact .inr h
def aw4{w w':AE}(r:Bk w w')(h:At w=U)(v:Inv w){n:A6}(hn:B1 n=U)(ht:n.un<=(sT w n.to.toNat).ti):Ew w' n↔Ew w n:=by
 have:=r.ind (P:=λx=>n.un<=(sT x n.to.toNat).ti/\(Ew x n↔Ew w n)) h v ⟨ht,Iff.rfl⟩ (λx e hx vx p hd=>by
  have ok:=(Cz hx).1;have es:=V5 hd;have l:=atg (e:=e) vx ok n.to.toNat;refine⟨J7 p.1 l.1, ?_⟩;rw[← p.2];have k:Ew (CZ x e) n↔Ew (doM x e).1 n:=by
   rw[es];exact Iff.rfl
  rw[k];exact⟨atz vx ok hn p.1,ay7 vx ok⟩)
 exact this.2
def awL{w:AE}(h:At w=U):L8 (tR w,2,())=I ((tR<|F8 2 w,()),()):=aAI h (r:=2) J
def ayQ{l m:List Int}(hb:BOk l)(hm:BOk m):W5 (l,m,())=I ((U,()),()):=by
 obtain⟨ev,hd,hl,ht⟩:=TV hb;unfold W5;apply Tot.val;refine Tot.ite (λ_=>Tot.ret rfl) (λ_=>Tot.bind (Tot.eq hd) λr1 h1=> ?_);subst h1;refine Tot.bind (ax3 (ev:=ev) hl hm) λr2 h2=> ?_;obtain⟨c,rfl,hc,hc2⟩:=h2;have hb2:(A1 ((0:Int)<=(c:Int))&&A1 ((c:Int)<=(ev.length:Int)))=U:=by rw[AG,decide_eq_true_eq,decide_eq_true_eq];omega
 have hl':(ev.take c).length<=4294967296:=by rw[DU];omega
 refine Tot.pos hb2 (Tot.bind (Tot.eq<|Sn hl'<|aJB ht c) λr3 h3=>Tot.pos hb2<|Tot.bind (Tot.eq<|QH hl'<|aJB ht c) λr4 h4=>Tot.bind (Tot.eq<|QH J ht) λr5 h5=> ?_);subst h3 h4 h5;refine Tot.bind (Tot.eq<|awL<|LQ ev) λr6 h6=> ?_;subst h6;have same:=TO<|R3<|ev.take c;refine Tot.bind (Tot.eq same) λr10 h10=> ?_;subst h10;refine Tot.ite (λ_=>Tot.bind (Tot.eq same) λr11 h11=>by subst h11;exact Tot.ret rfl) (λhn=> ?_);have hn:(!true||decide (2000<(ev.length:Int)))=A3:=hn;have hn:¬2000<ev.length:=by
  simp at hn;omega
 obtain⟨p1,p2⟩:=auq hn hc;have okw:=LQ<|ev.take c;have vw:=(Ts<|ev.take c).2;have run:Bk (C7<|ev.take c) (F8 2<|C7 ev):=by
  refine Bk.trans (b:=C7 ev) ⟨ev.drop c,λe he=>ht e<|Jr he, ?_⟩<|Bk.calm 2 _;rw[p2,p1]
 have okx:=(Cz<|run.rok okw).1;have key:Tot (sx (tR<|C7<|ev.take c,tR<|F8 2<|C7 ev,0,())) (Rn (λ_=>False) λ_=>True):=by
  generalize C7 (ev.take c)=w at *;generalize F8 2 (C7 ev)=x at *;have ok:=(Cz okw).1;have kl:=ok.kl;have kx:=okx.kl;have sl:=ok.sl;have gl:=ok.gl;have gx:=okx.gl;refine Tot.loop (λi s=>s=(tR w,tR x,(i:Int),())) _ w.AQ.length (λi s hi hs=> ?_) rfl;subst hs;unfold uK;refine Tot.ite (λhc=> ?_) (λhc=>Tot.ret trivial);have hc:(i:Int)<(w.AQ.length:Int):=BX hc;have hi':i<w.AQ.length:=J
  have hmm:=EZ hi';have nok:=ok.s _ hmm;obtain⟨_,e2⟩:=Qv nok;have ew:w64 ((i:Int)+1)=((i+1:Nat):Int):=LY rfl J;refine Tot.pos (AU hi') ?_;simp only[Ch];have hin:inb (nA w.AQ i).to w.AB.length=U:=FP e2.1 J;have amB:inb (nA w.AQ i).to x.AB.length=U:=FP e2.1 J;have ek: @rd AA (dfl .AN) w.AB (nA w.AQ i).to=kA w.AB (nA w.AQ i).to.toNat:=rfl;have ekx: @rd AA (dfl .AN) x.AB (nA w.AQ i).to=kA x.AB (nA w.AQ i).to.toNat:=rfl;have kok:=(ok.k (nA w.AQ i).to.toNat J).1;have aF0:=(okx.k (nA w.AQ i).to.toNat J).1;have f2:=(Bx (Bu kok).kok).il;have f3:=(Bx (Bu aF0).kok).il;obtain⟨g,eg,hg⟩:=PD (l:=w.got) (n:=nA w.AQ i) J;obtain⟨gX,egX,hgX⟩:=PD (l:=x.got) (n:=nA w.AQ i) J;obtain⟨b,eb,hbb⟩:=PD (l:=(stT<|kA w.AB (nA w.AQ i).to.toNat).inbox) (n:=nA w.AQ i) J;obtain⟨bX,ebX,hbX⟩:=PD (l:=(stT<|kA x.AB (nA w.AQ i).to.toNat).inbox) (n:=nA w.AQ i) J;simp only[hin,amB,A5,ek,ekx,Hj kok,Hj aF0,A9,eg,egX,eb,ebX,D8,Fa,D0];refine Tot.ite (λhx=> ?_) (λ_=>Tot.ret ⟨hi',by rw[ew]⟩);exfalso;rw[AG,C1]at hx;have h1:(nA w.AQ i).un<=(sT w (nA w.AQ i).to.toNat).ti:=BX hx.1;have iff:=aw4 run okw vw nok h1;have h2:¬((b.1.1||g.1.1)=(bX.1.1||gX.1.1)):=J3 hx.2;refine h2 ?_;rw[Ke,Br,Br,hbb,hg,hbX,hgX];unfold Ew sT at iff;exact⟨λh=>(iff.2 h.symm).symm,λh=>(iff.1 h.symm).symm⟩
 exact Tot.sum (P:=λ_=>False) (Q:=λ_=>True) key (λ_ h=>h.elim) λ_ _=>Tot.ret rfl
end Go.VS
end
end
