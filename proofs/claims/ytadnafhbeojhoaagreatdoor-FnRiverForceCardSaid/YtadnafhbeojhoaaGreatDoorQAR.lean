/- Part 18. -/
import Derived.Test.YtadnafhbeojhoaaGreatDoorQAQ
open Bool renaming and_eq_true->AI,and_false->Bb,eq_iff_iff->Iz,false->A3,false_and->AP,not_eq_true'->DR,not_false->AG,not_true->AD,or_eq_true->Ci,true->A1,true_and->AX
open ByteArray renaming data_extract->fN
open Decidable renaming decide->A0
open Go.IntKind renaming wrap->cq
open Int renaming toNat->AM
open List renaming drop->Bs,eq_nil_of_length_eq_zero->EE,getD_eq_getElem?_getD->BD,length_nil->C2,mem_of_getElem?->Cg,nil_append->EW,replicate->BW,take->BU
open Nat renaming le_refl->As,lt_or_ge->GN,sub_self->Mj,zero_add->DJ,zero_le->Cw
open Option renaming bind_some->A9,none->U,some->I
set_option linter.all false
noncomputable section
namespace Go.VS
open Go
section
variable {σ ρ β γ:Type} {b:σ->Option (σ ⊕ ρ)}
def BR{x:σ}{y:ρ}(h:b x=I (.inr y)):AW b x=I y:=aEF (n:=1)<|by simp[Ho,h]
def B4{x x':σ}{y:ρ}(h:b x=I (.inl x'))(hy:AW b x'=I y):AW b x=I y:=by
 obtain⟨n,hn⟩:=xb hy;exact aEF (n:=n+1)<|by simp[Ho,h,hn]
def CS(st:Nat->σ)(n:Nat){y:ρ}(h:∀i,i<n->b (st i)=I (.inl<|st<|i+1))(hn:b (st n)=I (.inr y)):AW b (st 0)=I y:=by
 have:∀k,k<=n->AW b (st<|n - k)=I y:=by
  intro k
  induction k with
  | zero=>intro _;exact BR hn
  | succ k ih=>
   intro hk;refine B4 (h (n - (k+1)) J) ?_;rw[show n - (k+1)+1=n - k by omega];exact ih J
 have:=this n<|As _;rwa[Mj]at this
def amN(Inv:Nat->σ->Prop)(O4:ρ->Prop)(n:Nat)(oL:∀i s,i<n->Inv i s->(∃s',b s=I (.inl s')/\Inv (i+1) s')\/(∃r,b s=I (.inr r)/\O4 r))
  (gX:∀s,Inv n s->∃r,b s=I (.inr r)/\O4 r){s0:σ}(h0:Inv 0 s0):∃r,AW b s0=I r/\O4 r:=by
 have:∀k,k<=n->∀s,Inv (n - k) s->∃r,AW b s=I r/\O4 r:=by
  intro k
  induction k with
  | zero=>
   intro _ s hs;obtain⟨r,h1,h2⟩:=gX s hs;exact⟨r,BR h1,h2⟩
  | succ k ih=>
   intro hk s hs;rcases oL _ s J hs with⟨s',h1,h2⟩|⟨r,h1,h2⟩
   .rw[show n - (k+1)+1=n - k by omega]at h2;obtain⟨r,h3,h4⟩:=ih J s' h2;exact⟨r,B4 h1 h3,h4⟩
   .exact⟨r,BR h1,h2⟩
 exact this n (As _) s0<|by rwa[Mj]
end
def Gf{β:Type}(q:Nat->Option β):Nat->Nat->Option β
 | 0,_=>U
 | k+1,i=>match q i with
  | some r=>I r
  | none=>Gf q k (i+1)
section
variable {σ β γ:Type} {b:σ->Option (σ ⊕ (β ⊕ γ))}
def aEr(st:Nat->σ)(n:Nat)(q:Nat->Option β)(fin:γ)
  (h:∀i,i<n->b (st i)=I (match q i with|none=> .inl (st<|i+1)|some r=> .inr<|.inl r))
  (hn:b (st n)=I (.inr<|.inr fin)):AW b (st 0)=I (match Gf q n 0 with|none=> .inr fin|some r=> .inl r):=by
 have:∀k,k<=n->AW b (st<|n - k)=I (match Gf q k (n - k) with|none=> .inr fin|some r=> .inl r):=by
  intro k
  induction k with
  | zero=>intro _;exact BR hn
  | succ k ih=>
   intro hk;have h1:=h (n - (k+1)) J;unfold Gf;cases hq:q (n - (k+1)) with
   | some r=>rw[hq]at h1;exact BR h1
   | none=>
    rw[hq]at h1;refine B4 h1 ?_;rw[show n - (k+1)+1=n - k by omega];exact ih J
 have:=this n<|As _;rwa[Mj]at this
def LS(p:Nat->Bool):Nat->Nat->Bool
 | 0,_=>A1
 | k+1,i=>p i&&LS p k (i+1)
def Ae(n:Nat)(p:Nat->Bool):Bool:=LS p n 0
def abp{p:Nat->Bool}{r:β}:∀(k i:Nat),Gf (λi=>if p i then U else I r) k i=if LS p k i then U else I r
 | 0,_=>rfl
 | k+1,i=>by
  unfold Gf LS;cases hp:p i
  .simp
  .simpa using abp k<|i+1
def C3(st:Nat->σ)(n:Nat)(p:Nat->Bool)(r:β)(fin:γ)
  (h:∀i,i<n->b (st i)=I (if p i then .inl (st<|i+1) else .inr (.inl r)))
  (hn:b (st n)=I (.inr<|.inr fin)):AW b (st 0)=I (if Ae n p then .inr fin else .inl r):=by
 rw[aEr st n (λi=>if p i then U else I r) fin (λi hi=>by rw[h i hi];cases p i<;>rfl) hn,abp,Ae];cases LS p n 0<;>rfl
def FH(n:Nat)(p:Nat->Bool):Int:=(Gf (λi=>if p i then I (i:Int) else U) n 0).getD (-1)
def adN{p:Nat->Bool}{f:Int->β}:∀(k i:Nat),Gf (λi=>if p i then I (f (i:Int)) else U) k i=(Gf (λi=>if p i then I (i:Int) else U) k i).map f
 | 0,_=>rfl
 | k+1,i=>by
  unfold Gf;cases hp:p i
  .simpa using adN k (i+1)
  .simp
def nU{q:Nat->Option β}{r:β}:∀(k i:Nat),Gf q k i=I r->∃j,i<=j/\j<i+k/\q j=I r/\ ∀l,i<=l->l<j->q l=U
 | 0,_,h=>by cases h
 | k+1,i,h=>by
  unfold Gf at h;split at h
  .rename_i r' hr;cases h;exact⟨i,As _,J,hr,λl h1 h2=>by omega⟩
  .rename_i hr;obtain⟨j,h1,h2,h3,h4⟩:=nU k (i+1) h;exact⟨j,J,J,h3,λl h5 h6=>by
    rcases GN i l with h7|h7
    .exact h4 l h7 h6
    .rw[show l=i by omega];exact hr⟩
def wZ{q:Nat->Option β}:∀(k i:Nat),Gf q k i=U->∀l,i<=l->l<i+k->q l=U
 | 0,_,_,l,h1,h2=>J
 | k+1,i,h,l,h1,h2=>by
  unfold Gf at h;split at h
  .cases h
  .rename_i hr;rcases GN i l with h7|h7
   .exact wZ k (i+1) h l h7 J
   .rw[show l=i by omega];exact hr
def FO(n:Nat)(p:Nat->Bool):(FH n p= -1/\ ∀i,i<n->p i=A3)\/ ∃i:Nat,FH n p=i/\i<n/\p i=A1/\ ∀l,l<i->p l=A3:=by
 unfold FH;cases h:Gf (λi=>if p i then I (i:Int) else U) n 0 with
 | none=>
  refine .inl ⟨rfl,λi hi=> ?_⟩;have:=wZ n 0 h i (Cw _) J;cases hp:p i<;>simp[hp]at this ⊢
 | some r=>
  obtain⟨j,h1,h2,h3,h4⟩:=nU n 0 h;refine .inr ⟨j, ?_,J, ?_,λl hl=> ?_⟩
  .cases hp:p j<;>simp[hp]at h3;simp[h3]
  .cases hp:p j<;>simp[hp]at h3 ⊢
  .have:=h4 l (Cw _) hl;cases hp:p l<;>simp[hp]at this ⊢
def PJ(st:Nat->σ)(n:Nat)(p:Nat->Bool)(f:Int->β)(fin:γ)
  (h:∀i,i<n->b (st i)=I (if p i then .inr (.inl<|f (i:Int)) else .inl (st<|i+1)))
  (hn:b (st n)=I (.inr<|.inr fin)):AW b (st 0)=I (if FH n p<0 then .inr fin else .inl (f<|FH n p)):=by
 rw[aEr st n (λi=>if p i then I (f (i:Int)) else U) fin (λi hi=>by rw[h i hi];cases p i<;>rfl) hn,adN];rcases FO n p with⟨h1,_⟩|⟨i,h1,_⟩
 .rw[h1];unfold FH at h1;cases h2:Gf (λi=>if p i then I (i:Int) else U) n 0 with
  | none=>simp
  | some r=>
   obtain⟨j,_,_,h3,_⟩:=nU n 0 h2;cases hp:p j<;>simp[hp]at h3;rw[h2]at h1;simp at h1;omega
 .rw[h1];unfold FH at h1;cases h2:Gf (λi=>if p i then I (i:Int) else U) n 0 with
  | none=>rw[h2]at h1;simp at h1
  | some r=>
   rw[h2]at h1;simp at h1;subst h1;simp
end
def yz{p:Nat->Bool}:∀(k i:Nat),LS p k i=A1↔ ∀j,i<=j->j<i+k->p j=A1
 | 0,_=>by simp only[LS,true_iff];intro j h1 h2;omega
 | k+1,i=>by
  unfold LS;rw[AI,yz k<|i+1];constructor
  .rintro⟨h1,h2⟩ j h3 h4;rcases GN i j with h7|h7
   .exact h2 j h7 J
   .rw[show j=i by omega];exact h1
  .intro h;exact⟨h i (As _) J,λj h1 h2=>h j J J⟩
def CO{n:Nat}{p:Nat->Bool}:Ae n p=A1↔ ∀i,i<n->p i=A1:=by
 unfold Ae;rw[yz];exact⟨λh i hi=>h i (Cw _) J,λh j _ h2=>h j J⟩
def C9{A D Ω:Type}{f:A->Option Ω}{g:D->Option Ω}{y:D}:AO (I<|.inr y) f g=g y:=rfl
def Ea{A D Ω:Type}{f:A->Option Ω}{g:D->Option Ω}{y:A}:AO (I<|.inl y) f g=f y:=rfl
def Bi{X Ω:Type}{f:X->Option Ω}{y:X}:BF f (I<|.inr y)=f y:=rfl
def NJ{X Ω:Type}{f:X->Option Ω}{y:Ω}:BF f (I<|.inl y)=I y:=rfl
def Aa{n:Int}(h0: -9223372036854775808<=n)(h1:n<=9223372036854775807):w64 n=n:=by
 unfold w64;rw[IntKind.wrap_i64];omega
def NX(n:Int):w8 n=n % 256:=by
 unfold w8 cq;simp[IntKind.signed,IntKind.bits]
def B2{i n:Nat}(h:i<n)(hn:n<=9223372036854775807):w64 ((i:Int)+1)=((i+1:Nat):Int):=by
 rw[Aa J J];omega
def OS{α:Type}(d:α)(xs:List α)(i:Nat):rd d xs (i:Int)=xs.getD i d:=rfl
def awv(i n:Nat):inb (i:Int) n=A0 (i<n):=by
 unfold inb;by_cases h:i<n
 .simp[h]
 .simp[h]
def AR{i n:Nat}(h:i<n):inb (i:Int) n=A1:=by rw[awv];simpa using h
abbrev L(s:A4):List UInt8:=s.data.toList
def Ay(s:A4):(L s).length=s.size:=rfl
def Fm{s t:A4}(h:L s=L t):s=t:=by
 cases s;cases t;simp[L]at h;exact congrArg _ h
def GL(s t:A4):L (s++t)=L s++L t:=by simp[L,ByteArray.data_append]
def E5(s:A4)(a b:Nat):L (s.extract a b)=((L s).drop a).take (b - a):=by
 simp[L,fN,Array.toList_extract,List.extract_eq_take_drop]
def Bg(s t:A4):(s++t).size=s.size+t.size:=ByteArray.size_append ..
def L_B(l:List UInt8):L (B l)=l:=rfl
def BM(l:List UInt8):(B l).size=l.length:=rfl
def p7(l:List UInt8):L ⟨l.toArray⟩=l:=rfl
def Kb(s:A4)(i:Nat):bt s (i:Int)=(((L s).getD i 0).toNat:Int):=rfl
def atH(s:A4)(i:Int):0<=bt s i:=by unfold bt;omega
def apt(s:A4)(i:Int):bt s i<=255:=by
 unfold bt;have:=(s.data.toList.getD i.toNat 0).toNat_lt;omega
end Go.VS
namespace Go.VS
open Go
def aps(m:AQ):Prop:=m.da.size<=1048576
def Pn(h:AH):Prop:=h.got.length<=1048576/\ ∀m∈h.got,aps m
def Eo(k:AA):Prop:=k.log.size<=1048576/\k.AE.length<=1048576/\ ∀h∈k.AE,Pn h
def rH(p:AT):Prop:=p.data.size<=1048576
def Fu(n:A7):Prop:=n.tx.size<=1048576
def Ir{α:Type}{l:List α}{i:Nat}{x d:α}(h:l[i]? =I x):l.getD i d=x:=by simp[h]
def B7{i n:Nat}(h:i<n):A0 ((i:Int)<(n:Int))=A1:=by simpa using h
structure E4 (ks:List AA) (ls:List Bool) (ra:List AT) (se go:List A7):Prop where
 kl:ks.length<=1048576
 k:∀x∈ks,Eo x
 l:ls.length<=1048576
 rl:ra.length<=1048576
 r:∀x∈ra,rH x
 sl:se.length<=1048576
 s:∀x∈se,Fu x
 gl:go.length<=1048576
 g:∀x∈go,Fu x
@[simp] theorem HF (q:Bool):Ad A3 q=A1:=by cases q<;>rfl
@[simp] theorem IA (q:Bool):Ad A1 q=q:=by cases q<;>rfl
def tf(b:Bool):b=A1\/b=A3:=by cases b<;>simp
def inB(n lo hi:Int):Bool:=A0 (lo<=n)&&A0 (n<=hi)
def Af{n lo hi:Int}:inB n lo hi=A1↔lo<=n/\n<=hi:=by simp[inB]
abbrev isN(n:Int):Bool:=inB n 0 3
@[simp] theorem EF {n lo hi:Int} :C4 (n,lo,hi,())=I ((inB n lo hi,()),()):=rfl
@[simp] theorem Hx {n lo hi:Int} :DK (n,lo,hi,())=I ((inB n lo hi,()),()):=rfl
@[simp] theorem KI {n:Int} :FX (n,())=I ((isN n,()),()):=rfl
@[simp] theorem JE {n:Int} :FN (n,())=I ((isN n,()),()):=rfl
abbrev tin(s:A4):Bool:=Ae s.size λi=>inB (bt s i) 32 126
def LC(s:A4):Bool:=inB s.size 1 24&&tin s
def tG{s:A4}{i:Int}:w64 (bt s i)=bt s i:=Aa (by have:=atH s i;omega) (by have:=apt s i;omega)
@[simp] theorem az1 {s:A4} (hs:s.size<=1048576):Mr (s,())=I ((LC s,()),()):=by
 have h:jD (s,0,())=I (if tin s then .inr (s,()) else .inl (A3,())):=
  C3 (λi=>(s,(i:Int),())) s.size (λi=>inB (bt s i) 32 126) (A3,()) (s,()) (λi hi=>by
   unfold cg;simp only[AR hi,B7 hi,tG,EF,A9,B2 hi (by omega:s.size<=9223372036854775807)];cases inB (bt s i) 32 126<;>rfl) (by simp[cg])
 unfold Mr;simp only[h];unfold LC;cases tin s<;>simp[AO]
def B3(n:A7):Bool:=isN n.fr&&(isN n.to&&(inB n.nu 1 99&&(inB n.un 1 999&&LC n.tx)))
@[simp] theorem Td {fr nu tt un:Int} {tx:A4} (hs:tx.size<=1048576):Ng ((fr,nu,tt,un,tx,()),())=I ((B3 ⟨fr,nu,tt,un,tx⟩,()),()):=by
 unfold Ng B3;simp only[az1 hs,EF,KI,A9];cases isN fr<;>cases isN tt<;>cases inB nu 1 99<;>cases inB un 1 999<;>simp[Ad]
@[simp] theorem Sx {fr nu tt un:Int} {tx:A4} (hs:tx.size<=1048576):N0 ((fr,nu,tt,un,tx,()),())=I ((B3 ⟨fr,nu,tt,un,tx⟩,()),()):=by
 have h:rS ((fr,nu,tt,un,tx,()),0,())=I (if tin tx then .inr () else .inl (A3,())):=
  C3 (λi=>((fr,nu,tt,un,tx,()),(i:Int),())) tx.size (λi=>inB (bt tx i) 32 126) (A3,()) () (λi hi=>by
   unfold ff;simp only[AR hi,B7 hi,B2 hi (by omega:tx.size<=9223372036854775807)];unfold inB;by_cases h1:bt tx i<32<;>by_cases h2:126<bt tx i<;>simp[h1,h2,Ad]<;>omega) (by simp[ff])
 unfold N0 B3;simp only[h,Hx,JE,A9];unfold LC;by_cases h1:(tx.size:Int)<1<;>by_cases h2:(24:Int)<tx.size<;>cases isN fr<;>cases isN tt<;>cases inB nu 1 99<;>cases inB un 1 999<;>cases tin tx<;>simp[h1,h2,AO,inB]<;>omega
def G3(m:Mark):Bool:=isN m.mf&&(inB m.mn 1 99&&inB m.mu 1 999)
@[simp] theorem alx {a b c:Int} :dh ((a,b,c,()),())=I ((G3 ⟨a,b,c⟩,()),()):=by
 unfold dh G3;simp only[EF,KI,A9];cases isN a<;>cases inB b 1 99<;>simp[Ad]
def bef(a b c d:Int):Bool:=A0 (a<c)||(A0 (a=c)&&A0 (b<d))
@[simp] theorem RN {a b c d:Int} :LJ (a,b,c,d,())=I ((bef a b c d,()),()):=rfl
@[simp] theorem aD {a b c d:Int} :MT (a,b,c,d,())=I ((bef a b c d,()),()):=rfl
def nA(l:List A7)(i:Nat):A7:=l.getD i<|dfl .note
def mA(l:List Mark)(i:Nat):Mark:=l.getD i<|dfl .mark
def CK(l:List A7)(i:Nat): @rd A7 (dfl .note) l (i:Int)=nA l i:=rfl
def F8(l:List Mark)(i:Nat): @rd Mark (dfl .mark) l (i:Int)=mA l i:=rfl
def EL(l:List A7):Bool:=Ae l.length λi=>B3 (nA l i)&&(A0 (i=0)||bef (nA l<|i - 1).fr (nA l<|i - 1).nu (nA l i).fr (nA l i).nu)
def Hm(l:List Mark):Bool:=Ae l.length λi=>G3 (mA l i)&&(A0 (i=0)||bef (mA l<|i - 1).mf (mA l<|i - 1).mn (mA l i).mf (mA l i).mn)
def TV{l:List A7}(h:∀x∈l,Fu x)(i:Nat):(nA l i).tx.size<=1048576:=by
 unfold nA;cases hx:l[i]? with
 | none=>simp[hx,dfl];decide
 | some x=>
  have h1:x.tx.size<=1048576:=h x<|Cg hx;rw[BD,hx];exact h1
def eP{i n:Nat}(h:i<n)(hn:n<=9223372036854775807):w64 ((i:Int) - 1)=(i:Int) - 1:=Aa J J
def aBt{l:List A7}(hl:l.length<=1048576)(h:∀x∈l,Fu x):VQ (l,())=I ((EL l,()),()):=by
 have h:qy (l,l,(l.length:Int),0,())=I (if EL l then .inr () else .inl (A3,())):=
  C3 (λi=>(l,l,(l.length:Int),(i:Int),())) l.length (λi=>B3 (nA l i)&&(A0 (i=0)||bef (nA l<|i - 1).fr (nA l<|i - 1).nu (nA l i).fr (nA l i).nu)) (A3,()) () (λi hi=>by
   unfold ZY;simp only[AR hi,B7 hi,CK,Td<|TV h i,A9,RN,B2 hi (by omega:l.length<=9223372036854775807)];cases i with
   | zero=>rcases tf (B3<|nA l 0) with h1|h1<;>simp only[h1]<;>simp
   | succ j=>
    rw[eP hi J,show((j+1:Nat):Int) - 1=(j:Int) by omega,AR<|show j<l.length by omega];simp only[CK];rcases tf (B3<|nA l<|j+1) with h1|h1<;>rcases tf (bef (nA l j).fr (nA l j).nu (nA l<|j+1).fr (nA l<|j+1).nu) with h2|h2<;>simp only[h1,h2]<;>simp[h2]) (by simp[ZY])
 unfold VQ;simp only[h];cases EL l<;>simp[AO]
def vf{l:List A7}{DU:Int}(hl:l.length<=1048576)(h:∀x∈l,Fu x):WB (l,DU,())=I ((A0 ((l.length:Int)<=DU)&&EL l,()),()):=by
 have h:gM (l,0,())=I (if EL l then .inr () else .inl (A3,())):=
  C3 (λi=>(l,(i:Int),())) l.length (λi=>B3 (nA l i)&&(A0 (i=0)||bef (nA l<|i - 1).fr (nA l<|i - 1).nu (nA l i).fr (nA l i).nu)) (A3,()) () (λi hi=>by
   unfold ZG;simp only[AR hi,B7 hi,CK,Sx<|TV h i,A9,aD,B2 hi (by omega:l.length<=9223372036854775807)];cases i with
   | zero=>rcases tf (B3<|nA l 0) with h1|h1<;>simp only[h1]<;>simp
   | succ j=>
    rw[eP hi J,show((j+1:Nat):Int) - 1=(j:Int) by omega,AR<|show j<l.length by omega];simp only[CK];rcases tf (B3<|nA l<|j+1) with h1|h1<;>rcases tf (bef (nA l j).fr (nA l j).nu (nA l<|j+1).fr (nA l<|j+1).nu) with h2|h2<;>simp only[h1,h2]<;>simp[h2]) (by simp[ZG])
 unfold WB;simp only[h];by_cases hm:(l.length:Int)<=DU
 .rw[show A0 (DU<(l.length:Int))=A3 by simpa using hm];cases EL l<;>simp[AO,hm]
 .rw[show A0 (DU<(l.length:Int))=A1 by simpa using hm];simp[hm]
def amu{l:List Mark}(hl:l.length<=1048576):cu (l,())=I ((Hm l,()),()):=by
 have h:nk (l,l,(l.length:Int),0,())=I (if Hm l then .inr () else .inl (A3,())):=
  C3 (λi=>(l,l,(l.length:Int),(i:Int),())) l.length (λi=>G3 (mA l i)&&(A0 (i=0)||bef (mA l<|i - 1).mf (mA l<|i - 1).mn (mA l i).mf (mA l i).mn)) (A3,()) () (λi hi=>by
   unfold fR;simp only[AR hi,B7 hi,F8,alx,A9,RN,B2 hi (by omega:l.length<=9223372036854775807)];cases i with
   | zero=>rcases tf (G3<|mA l 0) with h1|h1<;>simp only[h1]<;>simp
   | succ j=>
    rw[eP hi J,show((j+1:Nat):Int) - 1=(j:Int) by omega,AR<|show j<l.length by omega];simp only[F8];rcases tf (G3<|mA l<|j+1) with h1|h1<;>rcases tf (bef (mA l j).mf (mA l j).mn (mA l<|j+1).mf (mA l<|j+1).mn) with h2|h2<;>simp only[h1,h2]<;>simp[h2]) (by simp[fR])
 unfold cu;simp only[h];cases Hm l<;>simp[AO]
def ane{l:List Mark}(hl:l.length<=1048576):cF (l,())=I ((A0 ((l.length:Int)<=12)&&Hm l,()),()):=by
 have h:nK (l,0,())=I (if Hm l then .inr () else .inl (A3,())):=
  C3 (λi=>(l,(i:Int),())) l.length (λi=>G3 (mA l i)&&(A0 (i=0)||bef (mA l<|i - 1).mf (mA l<|i - 1).mn (mA l i).mf (mA l i).mn)) (A3,()) () (λi hi=>by
   unfold du G3;simp only[AR hi,B7 hi,F8,Hx,JE,A9,aD,B2 hi (by omega:l.length<=9223372036854775807)];cases i with
   | zero=>rcases tf (isN (mA l 0).mf) with h1|h1<;>rcases tf (inB (mA l 0).mn 1 99) with h2|h2<;>rcases tf (inB (mA l 0).mu 1 999) with h3|h3<;>simp only[h1,h2,h3]<;>simp
   | succ j=>
    rw[eP hi J,show((j+1:Nat):Int) - 1=(j:Int) by omega,AR<|show j<l.length by omega];simp only[F8];rcases tf (isN (mA l<|j+1).mf) with h1|h1<;>rcases tf (inB (mA l<|j+1).mn 1 99) with h2|h2<;>rcases tf (inB (mA l<|j+1).mu 1 999) with h3|h3<;>rcases tf (bef (mA l j).mf (mA l j).mn (mA l<|j+1).mf (mA l<|j+1).mn) with h4|h4<;>simp only[h1,h2,h3]<;>simp[h4]<;>omega) (by simp[du])
 unfold cF;simp only[h];by_cases hm:(l.length:Int)<=12
 .rw[show A0 ((12:Int)<(l.length:Int))=A3 by simpa using hm];cases Hm l<;>simp[AO,hm]
 .rw[show A0 ((12:Int)<(l.length:Int))=A1 by simpa using hm];simp[hm]
def AY(l:List A7)(f n:Int):Int:=FH l.length λi=>A0 ((nA l i).fr=f)&&A0 ((nA l i).nu=n)
def Bo(l:List Mark)(f n:Int):Int:=FH l.length λi=>A0 ((mA l i).mf=f)&&A0 ((mA l i).mn=n)
def TM{n:Nat}{p:Nat->Bool}:AO (I<|if FH n p<0 then(.inr ():(Int×A2) ⊕ A2) else .inl (FH n p,())) (λy=>I ((y.1,()),())) (λ_=>I ((-1,()),()))=I ((FH n p,()),()):=by
 rcases FO n p with⟨h,_⟩|⟨i,h,_⟩
 .rw[h];rfl
 .rw[AB J];rfl
def Ja{l:List A7}{f n:Int}(hl:l.length<=1048576):Gl (l,f,n,())=I ((AY l f n,()),()):=by
 have h:rT (f,n,l,(l.length:Int),0,())=I (if AY l f n<0 then .inr () else .inl (AY l f n,())):=
  PJ (λi=>(f,n,l,(l.length:Int),(i:Int),())) l.length (λi=>A0 ((nA l i).fr=f)&&A0 ((nA l i).nu=n)) (λi=>(i,())) () (λi hi=>by
   unfold cC;simp only[AR hi,B7 hi,CK,B2 hi (by omega:l.length<=9223372036854775807)];by_cases h1:(nA l i).fr=f<;>by_cases h2:(nA l i).nu=n<;>simp[h1,h2]) (by simp[cC])
 unfold Gl;simp only[h];exact TM
def Hj{l:List A7}{f n:Int}(hl:l.length<=1048576):FB (l,f,n,())=I ((AY l f n,()),()):=by
 have h:gj (l,f,n,0,())=I (if AY l f n<0 then .inr () else .inl (AY l f n,())):=
  PJ (λi=>(l,f,n,(i:Int),())) l.length (λi=>A0 ((nA l i).fr=f)&&A0 ((nA l i).nu=n)) (λi=>(i,())) () (λi hi=>by
   unfold bH;simp only[AR hi,B7 hi,CK,B2 hi (by omega:l.length<=9223372036854775807)];by_cases h1:(nA l i).fr=f<;>by_cases h2:(nA l i).nu=n<;>simp[h1,h2]) (by simp[bH])
 unfold FB;simp only[h];exact TM
def Rm{l:List Mark}{f n:Int}(hl:l.length<=1048576):KB (l,f,n,())=I ((Bo l f n,()),()):=by
 have h:jT (f,n,l,(l.length:Int),0,())=I (if Bo l f n<0 then .inr () else .inl (Bo l f n,())):=
  PJ (λi=>(f,n,l,(l.length:Int),(i:Int),())) l.length (λi=>A0 ((mA l i).mf=f)&&A0 ((mA l i).mn=n)) (λi=>(i,())) () (λi hi=>by
   unfold bV;simp only[AR hi,B7 hi,F8,B2 hi (by omega:l.length<=9223372036854775807)];by_cases h1:(mA l i).mf=f<;>by_cases h2:(mA l i).mn=n<;>simp[h1,h2]) (by simp[bV])
 unfold KB;simp only[h];exact TM
def R7{l:List Mark}{f n:Int}(hl:l.length<=1048576):KT (l,f,n,())=I ((Bo l f n,()),()):=by
 have h:iO (l,f,n,0,())=I (if Bo l f n<0 then .inr () else .inl (Bo l f n,())):=
  PJ (λi=>(l,f,n,(i:Int),())) l.length (λi=>A0 ((mA l i).mf=f)&&A0 ((mA l i).mn=n)) (λi=>(i,())) () (λi hi=>by
   unfold cf;simp only[AR hi,B7 hi,F8,B2 hi (by omega:l.length<=9223372036854775807)];by_cases h1:(mA l i).mf=f<;>by_cases h2:(mA l i).mn=n<;>simp[h1,h2]) (by simp[cf])
 unfold KT;simp only[h];exact TM
def OA(id:Int)(fr tt:Int):Bool:= !decide (id=tt)&&(inB id fr tt||inB id tt fr)
def lW{id fr nu tt un:Int}{tx:A4}:TZ (id,(fr,nu,tt,un,tx,()),())=I ((OA id fr tt,()),()):=by
 unfold TZ OA;simp only[EF];by_cases h:id=tt<;>cases inB id fr tt<;>simp[h]
def qF{id fr nu tt un:Int}{tx:A4}:XT ((fr,nu,tt,un,tx,()),id,())=I ((OA id fr tt,()),()):=by
 unfold XT OA inB;by_cases h1:fr<=id
 .simp only[h1,AS,A5];congr 3;rw[Iz];simp;omega
 .have e:(A0 (tt<id)&&A0 (id<=fr))=(!decide (id=tt)&&(A0 (fr<=id)&&A0 (id<=tt)||decide (tt<=id)&&A0 (id<=fr))):=by
   rw[Iz];simp only[AI,Ci,DR,decide_eq_true_eq,decide_eq_false_iff_not];omega
  rw[← e];simp[h1]
structure Dc (held:List A7) (marks:List Mark) (inbox:List A7):Prop where
 hl:held.length<=1048576
 h:∀x∈held,Fu x
 ml:marks.length<=1048576
 il:inbox.length<=1048576
 i:∀x∈inbox,Fu x
def Gj(id ti nx:Int)(held:List A7)(marks:List Mark)(i:Nat):Bool:= !(A0 ((nA held i).fr=id)&&A0 (nx<=(nA held i).nu))&&(A0 (ti<(nA held i).un)&&(OA id (nA held i).fr (nA held i).to&&A0 (Bo marks (nA held i).fr (nA held i).nu<0)))
def Jo(id ti nx:Int)(marks:List Mark)(i:Nat):Bool:=A0 (ti<(mA marks i).mu)&& !(A0 ((mA marks i).mf=id)&&A0 (nx<=(mA marks i).mn))
def IM(id ti nx:Int)(marks:List Mark)(inbox:List A7)(i:Nat):Bool:=A0 ((nA inbox i).to=id)&&(!(A0 ((nA inbox i).fr=id)&&A0 (nx<=(nA inbox i).nu))&&(!decide (ti<(nA inbox i).un)||decide (0<=Bo marks (nA inbox i).fr (nA inbox i).nu)))
def Aw(k:AJ):Bool:=isN k.id&&(inB k.ti 0 999&&(inB k.nx 1 100&&((A0 ((k.held.length:Int)<=6)&&EL k.held)&&((A0 ((k.marks.length:Int)<=12)&&Hm k.marks)&&((A0 ((k.inbox.length:Int)<=6)&&EL k.inbox)&&
 (Ae k.held.length (Gj k.id k.ti k.nx k.held k.marks)&&(Ae k.marks.length (Jo k.id k.ti k.nx k.marks)&&Ae k.inbox.length (IM k.id k.ti k.nx k.marks k.inbox))))))))
def aep(l:List Mark)(f n:Int):Bo l f n= -1\/0<=Bo l f n:=by
 rcases FO l.length (λi=>A0 ((mA l i).mf=f)&&A0 ((mA l i).mn=n)) with⟨h,_⟩|⟨i,h,_⟩
 .exact .inl h
 .exact .inr (by unfold Bo;omega)
def tfp(p:Prop):(p=True)\/(p=False):=by
 by_cases h:p
 .exact .inl (eq_true h)
 .exact .inr<|eq_false h
def sgn(n:Int):((n<0)=True/\(0<=n)=False)\/((n<0)=False/\(0<=n)=True):=by
 by_cases h:n<0
 .exact .inl ⟨eq_true h,eq_false J⟩
 .exact .inr ⟨eq_false h,eq_true J⟩
def Ed(a b:Int):((a<=b)=True/\(b<a)=False)\/((a<=b)=False/\(b<a)=True):=by
 by_cases h:a<=b
 .exact .inl ⟨eq_true h,eq_false J⟩
 .exact .inr ⟨eq_false h,eq_true J⟩
def Vc(l:List A7)(f n:Int):AY l f n= -1\/0<=AY l f n:=by
 rcases FO l.length (λi=>A0 ((nA l i).fr=f)&&A0 ((nA l i).nu=n)) with⟨h,_⟩|⟨i,h,_⟩
 .exact .inl h
 .exact .inr (by unfold AY;omega)
def aq2{id ti nx:Int}{held:List A7}{marks:List Mark}{inbox:List A7}(sm:Dc held marks inbox):
  rV ((id,ti,nx,held,marks,inbox,()),held,(held.length:Int),0,())=I (if Ae held.length (Gj id ti nx held marks) then .inr ((id,ti,nx,held,marks,inbox,()),()) else .inl (A3,())):=
 C3 (λi=>((id,ti,nx,held,marks,inbox,()),held,(held.length:Int),(i:Int),())) held.length (Gj id ti nx held marks) (A3,()) ((id,ti,nx,held,marks,inbox,()),()) (λi hi=>by
  unfold XA Gj;have hl:held.length<=9223372036854775807:=by have:=sm.hl;omega
  simp only[AR hi,B7 hi,CK,F8,Rm sm.ml,lW,A9,B2 hi hl];have h4:=sgn<|Bo marks (nA held i).fr (nA held i).nu;rcases tfp ((nA held i).fr=id) with h1|h1<;>rcases tfp (nx<=(nA held i).nu) with h2|h2<;>rcases Ed (nA held i).un ti with h3|h3<;>obtain h4|h4:=h4<;>rcases tf (OA id (nA held i).fr (nA held i).to) with h5|h5<;>simp[h1,h2,h5,h4,h3]) (by simp[XA])
def aCW{id ti nx:Int}{held:List A7}{marks:List Mark}{inbox:List A7}(sm:Dc held marks inbox):
  qz ((id,ti,nx,held,marks,inbox,()),marks,(marks.length:Int),0,())=I (if Ae marks.length (Jo id ti nx marks) then .inr ((id,ti,nx,held,marks,inbox,()),()) else .inl (A3,())):=
 C3 (λi=>((id,ti,nx,held,marks,inbox,()),marks,(marks.length:Int),(i:Int),())) marks.length (Jo id ti nx marks) (A3,()) ((id,ti,nx,held,marks,inbox,()),()) (λi hi=>by
  unfold bF Jo;have hl:marks.length<=9223372036854775807:=by have:=sm.ml;omega
  simp only[AR hi,B7 hi,CK,F8,Rm sm.ml,lW,A9,B2 hi hl];rcases tfp ((mA marks i).mf=id) with h1|h1<;>rcases tfp (nx<=(mA marks i).mn) with h2|h2<;>rcases Ed (mA marks i).mu ti with h3|h3<;>simp[h1,h2,h3]) (by simp[bF])
def acT{id ti nx:Int}{held:List A7}{marks:List Mark}{inbox:List A7}(sm:Dc held marks inbox):
  ga ((id,ti,nx,held,marks,inbox,()),inbox,(inbox.length:Int),0,())=I (if Ae inbox.length (IM id ti nx marks inbox) then .inr () else .inl (A3,())):=
 C3 (λi=>((id,ti,nx,held,marks,inbox,()),inbox,(inbox.length:Int),(i:Int),())) inbox.length (IM id ti nx marks inbox) (A3,()) () (λi hi=>by
  unfold dY IM;have hl:inbox.length<=9223372036854775807:=by have:=sm.il;omega
  simp only[AR hi,B7 hi,CK,F8,Rm sm.ml,lW,A9,B2 hi hl];have h4:=sgn<|Bo marks (nA inbox i).fr (nA inbox i).nu;rcases tfp ((nA inbox i).fr=id) with h1|h1<;>rcases tfp (nx<=(nA inbox i).nu) with h2|h2<;>rcases Ed (nA inbox i).un ti with h3|h3<;>rcases tfp ((nA inbox i).to=id) with h0|h0<;>obtain h4|h4:=h4<;>simp[h1,h2,h0,h4,h3]) (by simp[dY])
def ap8{id ti nx:Int}{held:List A7}{marks:List Mark}{inbox:List A7}(sm:Dc held marks inbox):
  ke ((id,ti,nx,held,marks,inbox,()),0,())=I (if Ae held.length (Gj id ti nx held marks) then .inr ((id,ti,nx,held,marks,inbox,()),()) else .inl (A3,())):=
 C3 (λi=>((id,ti,nx,held,marks,inbox,()),(i:Int),())) held.length (Gj id ti nx held marks) (A3,()) ((id,ti,nx,held,marks,inbox,()),()) (λi hi=>by
  unfold fP Gj;have hl:held.length<=9223372036854775807:=by have:=sm.hl;omega
  simp only[AR hi,B7 hi,CK,F8,R7 sm.ml,qF,A9,B2 hi hl];have h4:=sgn<|Bo marks (nA held i).fr (nA held i).nu;rcases tfp ((nA held i).fr=id) with h1|h1<;>rcases tfp (nx<=(nA held i).nu) with h2|h2<;>rcases Ed (nA held i).un ti with h3|h3<;>obtain h4|h4:=h4<;>rcases tf (OA id (nA held i).fr (nA held i).to) with h5|h5<;>simp[h1,h2,h5,h4,h3]) (by simp[fP])
def xV{id ti nx:Int}{held:List A7}{marks:List Mark}{inbox:List A7}(sm:Dc held marks inbox):
  sY ((id,ti,nx,held,marks,inbox,()),0,())=I (if Ae marks.length (Jo id ti nx marks) then .inr ((id,ti,nx,held,marks,inbox,()),()) else .inl (A3,())):=
 C3 (λi=>((id,ti,nx,held,marks,inbox,()),(i:Int),())) marks.length (Jo id ti nx marks) (A3,()) ((id,ti,nx,held,marks,inbox,()),()) (λi hi=>by
  unfold fj Jo;have hl:marks.length<=9223372036854775807:=by have:=sm.ml;omega
  simp only[AR hi,B7 hi,CK,F8,R7 sm.ml,qF,A9,B2 hi hl];rcases tfp ((mA marks i).mf=id) with h1|h1<;>rcases tfp (nx<=(mA marks i).mn) with h2|h2<;>rcases Ed (mA marks i).mu ti with h3|h3<;>simp[h1,h2,h3]) (by simp[fj])
def uX{id ti nx:Int}{held:List A7}{marks:List Mark}{inbox:List A7}(sm:Dc held marks inbox):
  gP ((id,ti,nx,held,marks,inbox,()),0,())=I (if Ae inbox.length (IM id ti nx marks inbox) then .inr () else .inl (A3,())):=
 C3 (λi=>((id,ti,nx,held,marks,inbox,()),(i:Int),())) inbox.length (IM id ti nx marks inbox) (A3,()) () (λi hi=>by
  unfold dU IM;have hl:inbox.length<=9223372036854775807:=by have:=sm.il;omega
  simp only[AR hi,B7 hi,CK,F8,R7 sm.ml,qF,A9,B2 hi hl];have h4:=sgn<|Bo marks (nA inbox i).fr (nA inbox i).nu;rcases tfp ((nA inbox i).fr=id) with h1|h1<;>rcases tfp (nx<=(nA inbox i).nu) with h2|h2<;>rcases Ed (nA inbox i).un ti with h3|h3<;>rcases tfp ((nA inbox i).to=id) with h0|h0<;>obtain h4|h4:=h4<;>simp[h1,h2,h0,h4,h3]) (by simp[dU])
def kU{id ti nx:Int}{held:List A7}{marks:List Mark}{inbox:List A7}(sm:Dc held marks inbox):OO ((id,ti,nx,held,marks,inbox,()),())=I ((Aw ⟨id,ti,nx,held,marks,inbox⟩,()),()):=by
 unfold OO Aw;simp only[EF,KI,aBt sm.hl sm.h,aBt sm.il sm.i,amu sm.ml,aq2 sm,aCW sm,acT sm,A9];rcases tf (isN id) with h1|h1<;>simp only[h1,AD,AG,A5,AP,AX,A6];rcases tf (inB ti 0 999) with h2|h2<;>simp only[h2,AD,AG,A5,AP,AX,A6];rcases tf (inB nx 1 100) with h3|h3<;>simp only[h3,AD,AG,A5,AP,AX,A6];rcases Ed (held.length:Int) 6 with h4|h4<;>rcases Ed (marks.length:Int) 12 with h5|h5<;>rcases Ed (inbox.length:Int) 6 with h6|h6<;>simp only[h4,h5,h6,AS,Ag,A5,AP,Bb,AX,A6];rcases tf (EL held) with h7|h7<;>rcases tf (Hm marks) with h8|h8<;>rcases tf (EL inbox) with h9|h9<;>simp only[h7,h8,h9,AD,AG,A5,AP,Bb,AX,A6];rcases tf (Ae held.length<|Gj id ti nx held marks) with h10|h10<;>rcases tf (Ae marks.length<|Jo id ti nx marks) with h11|h11<;>rcases tf (Ae inbox.length<|IM id ti nx marks inbox) with h12|h12<;>simp only[h10,h11,h12,A5,C9,Ea,A6,aCW sm,acT sm]<;>rfl
def l4{id ti nx:Int}{held:List A7}{marks:List Mark}{inbox:List A7}(sm:Dc held marks inbox):OM ((id,ti,nx,held,marks,inbox,()),())=I ((Aw ⟨id,ti,nx,held,marks,inbox⟩,()),()):=by
 unfold OM Aw;simp only[Hx,JE,vf sm.hl sm.h,vf sm.il sm.i,ane sm.ml,ap8 sm,xV sm,uX sm,A9];rcases tf (isN id) with h1|h1<;>simp only[h1,AD,AG,A5,AP,AX,A6];rcases tf (inB ti 0 999) with h2|h2<;>simp only[h2,AD,AG,A5,AP,AX,A6];rcases tf (inB nx 1 100) with h3|h3<;>simp only[h3,AD,AG,A5,AP,AX,A6];rcases tf (A0 ((held.length:Int)<=6)&&EL held) with h7|h7<;>rcases tf (A0 ((marks.length:Int)<=12)&&Hm marks) with h8|h8<;>rcases tf (A0 ((inbox.length:Int)<=6)&&EL inbox) with h9|h9<;>simp only[h7,h8,h9,AD,AG,A5,AP,Bb,AX,A6];rcases tf (Ae held.length<|Gj id ti nx held marks) with h10|h10<;>rcases tf (Ae marks.length<|Jo id ti nx marks) with h11|h11<;>rcases tf (Ae inbox.length<|IM id ti nx marks inbox) with h12|h12<;>simp only[h10,h11,h12,A5,C9,Ea,A6,xV sm,uX sm]<;>rfl
def LU{α:Type}{l:List α}{d:α}(hl:l.length<=1048576):
  (if A0 ((l.length:Int)=0) then I ((([]:List α),()),()) else if A0 (0<=(l.length:Int))&&A0 ((l.length:Int)<=4294967296) then I (((BU (BW (AM (l.length:Int)) d).length l++Bs l.length (BW (AM (l.length:Int)) d)),()),()) else U)=I ((l,()),()):=by
 by_cases h:(l.length:Int)=0
 .have:l=[]:=EE J;subst this;rfl
 .have h1:(l.length:Int)<=4294967296:=J
  have h2:0<=(l.length:Int):=J
  simp[h1]
def Yd{l:List A7}(hl:l.length<=1048576):NI (l,())=I ((l,()),()):=LU hl
def aog{l:List Mark}(hl:l.length<=1048576):lK (l,())=I ((l,()),()):=LU hl
def oN{l:List A4}(hl:l.length<=1048576):QH (l,())=I ((l,()),()):=LU hl
def aaU{id ti nx:Int}{held:List A7}{marks:List Mark}{inbox:List A7}(sm:Dc held marks inbox):Rh ((id,ti,nx,held,marks,inbox,()),())=I (((id,ti,nx,held,marks,inbox,()),()),()):=by
 unfold Rh;simp only[Yd sm.hl,aog sm.ml,Yd sm.il,A9]
def B9{n:Nat}(h:n<=4294967296):Ac n=A1:=by simpa[Ac] using h
def wM{id ti nx:Int}{held:List A7}{marks:List Mark}{inbox:List A7}(sm:Dc held marks inbox):QO ((id,ti,nx,held,marks,inbox,()),())=I (((id,ti,nx,held,marks,inbox,()),()),()):=by
 unfold QO;have h1:=sm.hl;have h2:=sm.ml;have h3:=sm.il;simp only[C2,DJ,EW,B9<|show held.length<=4294967296 by omega,B9<|show marks.length<=4294967296 by omega,B9<|show inbox.length<=4294967296 by omega,A5]
def avS{id:Int}:Ym (id,())=I ((if isN id then(id,0,1,[],[],[],()) else(0,0,0,[],[],[],()),()),()):=by
 unfold Ym;simp only[KI,A9];cases isN id<;>rfl
def asI{id:Int}:aK (id,())=I ((if isN id then(id,0,1,[],[],[],()) else(0,0,0,[],[],[],()),()),()):=by
 unfold aK;simp only[JE,A9];cases isN id<;>rfl
end Go.VS
end
