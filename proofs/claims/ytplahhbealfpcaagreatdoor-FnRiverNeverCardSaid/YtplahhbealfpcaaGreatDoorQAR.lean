/- Part 18. -/
import Derived.Test.YtplahhbealfpcaaGreatDoorQAQ
open Bool renaming and_eq_true->AE,and_false->Bc,eq_iff_iff->M5,false->A3,false_and->AO,not_eq_true'->CL,not_false->AI,not_true->AB,or_eq_true->CB,true->A0,true_and->AW
open ByteArray renaming data_extract->Yk
open Decidable renaming decide->A1
open Go.IntKind renaming wrap->Yr
open Int renaming toNat->AL
open List renaming drop->Bm,eq_nil_of_length_eq_zero->E6,getD_eq_getElem?_getD->B9,length_nil->CA,mem_of_getElem?->Cb,nil_append->EM,replicate->BT,take->BH
open Nat renaming le_refl->As,lt_or_ge->HU,sub_self->TZ,zero_add->DF,zero_le->Cu
open Option renaming bind_some->A9,none->U,some->I
set_option linter.all false
noncomputable section
namespace Go.VS
open Go
section
variable {σ ρ β γ:Type} {b:σ->Option (σ ⊕ ρ)}
def BP{x:σ}{y:ρ}(h:b x=I (.inr y)):AR b x=I y:=aBO (n:=1)<|by simp[HJ,h]
def B0{x x':σ}{y:ρ}(h:b x=I (.inl x'))(hy:AR b x'=I y):AR b x=I y:=by
 obtain⟨n,hn⟩:=aCA hy;exact aBO (n:=n+1)<|by simp[HJ,h,hn]
def C2(st:Nat->σ)(n:Nat){y:ρ}(h:∀i,i<n->b (st i)=I (.inl<|st<|i+1))(hn:b (st n)=I (.inr y)):AR b (st 0)=I y:=by
 have:∀k,k<=n->AR b (st<|n - k)=I y:=by
  intro k
  induction k with
  | zero=>intro _;exact BP hn
  | succ k ih=>
   intro hk;refine B0 (h (n - (k+1)) J) ?_;rw[show n - (k+1)+1=n - k by omega];exact ih J
 have:=this n<|As _;rwa[TZ]at this
def avT(Inv:Nat->σ->Prop)(No:ρ->Prop)(n:Nat)(nV:∀i s,i<n->Inv i s->(∃s',b s=I (.inl s')/\Inv (i+1) s')\/(∃r,b s=I (.inr r)/\No r))
  (oL:∀s,Inv n s->∃r,b s=I (.inr r)/\No r){s0:σ}(h0:Inv 0 s0):∃r,AR b s0=I r/\No r:=by
 have:∀k,k<=n->∀s,Inv (n - k) s->∃r,AR b s=I r/\No r:=by
  intro k
  induction k with
  | zero=>
   intro _ s hs;obtain⟨r,h1,h2⟩:=oL s hs;exact⟨r,BP h1,h2⟩
  | succ k ih=>
   intro hk s hs;rcases nV _ s J hs with⟨s',h1,h2⟩|⟨r,h1,h2⟩
   .rw[show n - (k+1)+1=n - k by omega]at h2;obtain⟨r,h3,h4⟩:=ih J s' h2;exact⟨r,B0 h1 h3,h4⟩
   .exact⟨r,BP h1,h2⟩
 exact this n (As _) s0<|by rwa[TZ]
end
def GR{β:Type}(q:Nat->Option β):Nat->Nat->Option β
 | 0,_=>U
 | k+1,i=>match q i with
  | some r=>I r
  | none=>GR q k (i+1)
section
variable {σ β γ:Type} {b:σ->Option (σ ⊕ (β ⊕ γ))}
def aCB(st:Nat->σ)(n:Nat)(q:Nat->Option β)(fin:γ)
  (h:∀i,i<n->b (st i)=I (match q i with|none=> .inl (st<|i+1)|some r=> .inr<|.inl r))
  (hn:b (st n)=I (.inr<|.inr fin)):AR b (st 0)=I (match GR q n 0 with|none=> .inr fin|some r=> .inl r):=by
 have:∀k,k<=n->AR b (st<|n - k)=I (match GR q k (n - k) with|none=> .inr fin|some r=> .inl r):=by
  intro k
  induction k with
  | zero=>intro _;exact BP hn
  | succ k ih=>
   intro hk;have h1:=h (n - (k+1)) J;unfold GR;cases hq:q (n - (k+1)) with
   | some r=>rw[hq]at h1;exact BP h1
   | none=>
    rw[hq]at h1;refine B0 h1 ?_;rw[show n - (k+1)+1=n - k by omega];exact ih J
 have:=this n<|As _;rwa[TZ]at this
def Lg(p:Nat->Bool):Nat->Nat->Bool
 | 0,_=>A0
 | k+1,i=>p i&&Lg p k (i+1)
def At(n:Nat)(p:Nat->Bool):Bool:=Lg p n 0
def aCx{p:Nat->Bool}{r:β}:∀(k i:Nat),GR (λi=>if p i then U else I r) k i=if Lg p k i then U else I r
 | 0,_=>rfl
 | k+1,i=>by
  unfold GR Lg;cases hp:p i
  .simp
  .simpa using aCx k<|i+1
def Cm(st:Nat->σ)(n:Nat)(p:Nat->Bool)(r:β)(fin:γ)
  (h:∀i,i<n->b (st i)=I (if p i then .inl (st<|i+1) else .inr (.inl r)))
  (hn:b (st n)=I (.inr<|.inr fin)):AR b (st 0)=I (if At n p then .inr fin else .inl r):=by
 rw[aCB st n (λi=>if p i then U else I r) fin (λi hi=>by rw[h i hi];cases p i<;>rfl) hn,aCx,At];cases Lg p n 0<;>rfl
def Fj(n:Nat)(p:Nat->Bool):Int:=(GR (λi=>if p i then I (i:Int) else U) n 0).getD (-1)
def aCw{p:Nat->Bool}{f:Int->β}:∀(k i:Nat),GR (λi=>if p i then I (f (i:Int)) else U) k i=(GR (λi=>if p i then I (i:Int) else U) k i).map f
 | 0,_=>rfl
 | k+1,i=>by
  unfold GR;cases hp:p i
  .simpa using aCw k (i+1)
  .simp
def jg{q:Nat->Option β}{r:β}:∀(k i:Nat),GR q k i=I r->∃j,i<=j/\j<i+k/\q j=I r/\ ∀l,i<=l->l<j->q l=U
 | 0,_,h=>by cases h
 | k+1,i,h=>by
  unfold GR at h;split at h
  .rename_i r' hr;cases h;exact⟨i,As _,J,hr,λl h1 h2=>by omega⟩
  .rename_i hr;obtain⟨j,h1,h2,h3,h4⟩:=jg k (i+1) h;exact⟨j,J,J,h3,λl h5 h6=>by
    rcases HU i l with h7|h7
    .exact h4 l h7 h6
    .rw[show l=i by omega];exact hr⟩
def aBu{q:Nat->Option β}:∀(k i:Nat),GR q k i=U->∀l,i<=l->l<i+k->q l=U
 | 0,_,_,l,h1,h2=>J
 | k+1,i,h,l,h1,h2=>by
  unfold GR at h;split at h
  .cases h
  .rename_i hr;rcases HU i l with h7|h7
   .exact aBu k (i+1) h l h7 J
   .rw[show l=i by omega];exact hr
def GL(n:Nat)(p:Nat->Bool):(Fj n p= -1/\ ∀i,i<n->p i=A3)\/ ∃i:Nat,Fj n p=i/\i<n/\p i=A0/\ ∀l,l<i->p l=A3:=by
 unfold Fj;cases h:GR (λi=>if p i then I (i:Int) else U) n 0 with
 | none=>
  refine .inl ⟨rfl,λi hi=> ?_⟩;have:=aBu n 0 h i (Cu _) J;cases hp:p i<;>simp[hp]at this ⊢
 | some r=>
  obtain⟨j,h1,h2,h3,h4⟩:=jg n 0 h;refine .inr ⟨j, ?_,J, ?_,λl hl=> ?_⟩
  .cases hp:p j<;>simp[hp]at h3;simp[h3]
  .cases hp:p j<;>simp[hp]at h3 ⊢
  .have:=h4 l (Cu _) hl;cases hp:p l<;>simp[hp]at this ⊢
def Q1(st:Nat->σ)(n:Nat)(p:Nat->Bool)(f:Int->β)(fin:γ)
  (h:∀i,i<n->b (st i)=I (if p i then .inr (.inl<|f (i:Int)) else .inl (st<|i+1)))
  (hn:b (st n)=I (.inr<|.inr fin)):AR b (st 0)=I (if Fj n p<0 then .inr fin else .inl (f<|Fj n p)):=by
 rw[aCB st n (λi=>if p i then I (f (i:Int)) else U) fin (λi hi=>by rw[h i hi];cases p i<;>rfl) hn,aCw];rcases GL n p with⟨h1,_⟩|⟨i,h1,_⟩
 .rw[h1];unfold Fj at h1;cases h2:GR (λi=>if p i then I (i:Int) else U) n 0 with
  | none=>simp
  | some r=>
   obtain⟨j,_,_,h3,_⟩:=jg n 0 h2;cases hp:p j<;>simp[hp]at h3;rw[h2]at h1;simp at h1;omega
 .rw[h1];unfold Fj at h1;cases h2:GR (λi=>if p i then I (i:Int) else U) n 0 with
  | none=>rw[h2]at h1;simp at h1
  | some r=>
   rw[h2]at h1;simp at h1;subst h1;simp
end
def aAb{p:Nat->Bool}:∀(k i:Nat),Lg p k i=A0↔ ∀j,i<=j->j<i+k->p j=A0
 | 0,_=>by simp only[Lg,true_iff];intro j h1 h2;omega
 | k+1,i=>by
  unfold Lg;rw[AE,aAb k<|i+1];constructor
  .rintro⟨h1,h2⟩ j h3 h4;rcases HU i j with h7|h7
   .exact h2 j h7 J
   .rw[show j=i by omega];exact h1
  .intro h;exact⟨h i (As _) J,λj h1 h2=>h j J J⟩
def CS{n:Nat}{p:Nat->Bool}:At n p=A0↔ ∀i,i<n->p i=A0:=by
 unfold At;rw[aAb];exact⟨λh i hi=>h i (Cu _) J,λh j _ h2=>h j J⟩
def CR{A D Ω:Type}{f:A->Option Ω}{g:D->Option Ω}{y:D}:AM (I<|.inr y) f g=g y:=rfl
def Gk{A D Ω:Type}{f:A->Option Ω}{g:D->Option Ω}{y:A}:AM (I<|.inl y) f g=f y:=rfl
def Be{X Ω:Type}{f:X->Option Ω}{y:X}:BS f (I<|.inr y)=f y:=rfl
def OK{X Ω:Type}{f:X->Option Ω}{y:Ω}:BS f (I<|.inl y)=I y:=rfl
def AZ{n:Int}(h0: -9223372036854775808<=n)(h1:n<=9223372036854775807):w64 n=n:=by
 unfold w64;rw[IntKind.wrap_i64];omega
def N4(n:Int):w8 n=n % 256:=by
 unfold w8 Yr;simp[IntKind.signed,IntKind.bits]
def B5{i n:Nat}(h:i<n)(hn:n<=9223372036854775807):w64 ((i:Int)+1)=((i+1:Nat):Int):=by
 rw[AZ J J];omega
def Oh{α:Type}(d:α)(xs:List α)(i:Nat):rd d xs (i:Int)=xs.getD i d:=rfl
def avU(i n:Nat):inb (i:Int) n=A1 (i<n):=by
 unfold inb;by_cases h:i<n
 .simp[h]
 .simp[h]
def AP{i n:Nat}(h:i<n):inb (i:Int) n=A0:=by rw[avU];simpa using h
abbrev L(s:A4):List UInt8:=s.data.toList
def Ay(s:A4):(L s).length=s.size:=rfl
def Fl{s t:A4}(h:L s=L t):s=t:=by
 cases s;cases t;simp[L]at h;exact congrArg _ h
def G7(s t:A4):L (s++t)=L s++L t:=by simp[L,ByteArray.data_append]
def Dz(s:A4)(a b:Nat):L (s.extract a b)=((L s).drop a).take (b - a):=by
 simp[L,Yk,Array.toList_extract,List.extract_eq_take_drop]
def Bu(s t:A4):(s++t).size=s.size+t.size:=ByteArray.size_append ..
def L_B(l:List UInt8):L (B l)=l:=rfl
def BQ(l:List UInt8):(B l).size=l.length:=rfl
def n8(l:List UInt8):L ⟨l.toArray⟩=l:=rfl
def Jj(s:A4)(i:Nat):bt s (i:Int)=(((L s).getD i 0).toNat:Int):=rfl
def axZ(s:A4)(i:Int):0<=bt s i:=by unfold bt;omega
def axa(s:A4)(i:Int):bt s i<=255:=by
 unfold bt;have:=(s.data.toList.getD i.toNat 0).toNat_lt;omega
end Go.VS
namespace Go.VS
open Go
def avj(m:AT):Prop:=m.da.size<=1048576
def Of(h:AH):Prop:=h.got.length<=1048576/\ ∀m∈h.got,avj m
def FN(k:AA):Prop:=k.log.size<=1048576/\k.AN.length<=1048576/\ ∀h∈k.AN,Of h
def aCs(p:AS):Prop:=p.data.size<=1048576
def G2(n:A6):Prop:=n.tx.size<=1048576
def Iz{α:Type}{l:List α}{i:Nat}{x d:α}(h:l[i]? =I x):l.getD i d=x:=by simp[h]
def B7{i n:Nat}(h:i<n):A1 ((i:Int)<(n:Int))=A0:=by simpa using h
structure IC (ks:List AA) (ls:List Bool) (ra:List AS) (se go:List A6):Prop where
 kl:ks.length<=1048576
 k:∀x∈ks,FN x
 l:ls.length<=1048576
 rl:ra.length<=1048576
 r:∀x∈ra,aCs x
 sl:se.length<=1048576
 s:∀x∈se,G2 x
 gl:go.length<=1048576
 g:∀x∈go,G2 x
@[simp] theorem HB (q:Bool):Ak A3 q=A0:=by cases q<;>rfl
@[simp] theorem IL (q:Bool):Ak A0 q=q:=by cases q<;>rfl
def tf(b:Bool):b=A0\/b=A3:=by cases b<;>simp
def inB(n lo hi:Int):Bool:=A1 (lo<=n)&&A1 (n<=hi)
def Af{n lo hi:Int}:inB n lo hi=A0↔lo<=n/\n<=hi:=by simp[inB]
abbrev isN(n:Int):Bool:=inB n 0 3
@[simp] theorem ED {n lo hi:Int} :By (n,lo,hi,())=I ((inB n lo hi,()),()):=rfl
@[simp] theorem Hl {n lo hi:Int} :D5 (n,lo,hi,())=I ((inB n lo hi,()),()):=rfl
@[simp] theorem Jb {n:Int} :FJ (n,())=I ((isN n,()),()):=rfl
@[simp] theorem JZ {n:Int} :FI (n,())=I ((isN n,()),()):=rfl
abbrev tin(s:A4):Bool:=At s.size λi=>inB (bt s i) 32 126
def MD(s:A4):Bool:=inB s.size 1 24&&tin s
def aak{s:A4}{i:Int}:w64 (bt s i)=bt s i:=AZ (by have:=axZ s i;omega) (by have:=axa s i;omega)
@[simp] theorem ao5 {s:A4} (hs:s.size<=1048576):O8 (s,())=I ((MD s,()),()):=by
 have h:ql (s,0,())=I (if tin s then .inr (s,()) else .inl (A3,())):=
  Cm (λi=>(s,(i:Int),())) s.size (λi=>inB (bt s i) 32 126) (A3,()) (s,()) (λi hi=>by
   unfold eQ;simp only[AP hi,B7 hi,aak,ED,A9,B5 hi (by omega:s.size<=9223372036854775807)];cases inB (bt s i) 32 126<;>rfl) (by simp[eQ])
 unfold O8;simp only[h];unfold MD;cases tin s<;>simp[AM]
def B4(n:A6):Bool:=isN n.fr&&(isN n.to&&(inB n.nu 1 99&&(inB n.un 1 999&&MD n.tx)))
@[simp] theorem Vy {fr nu tt un:Int} {tx:A4} (hs:tx.size<=1048576):OA ((fr,nu,tt,un,tx,()),())=I ((B4 ⟨fr,nu,tt,un,tx⟩,()),()):=by
 unfold OA B4;simp only[ao5 hs,ED,Jb,A9];cases isN fr<;>cases isN tt<;>cases inB nu 1 99<;>cases inB un 1 999<;>simp[Ak]
@[simp] theorem Vt {fr nu tt un:Int} {tx:A4} (hs:tx.size<=1048576):O7 ((fr,nu,tt,un,tx,()),())=I ((B4 ⟨fr,nu,tt,un,tx⟩,()),()):=by
 have h:qb ((fr,nu,tt,un,tx,()),0,())=I (if tin tx then .inr () else .inl (A3,())):=
  Cm (λi=>((fr,nu,tt,un,tx,()),(i:Int),())) tx.size (λi=>inB (bt tx i) 32 126) (A3,()) () (λi hi=>by
   unfold dw;simp only[AP hi,B7 hi,B5 hi (by omega:tx.size<=9223372036854775807)];unfold inB;by_cases h1:bt tx i<32<;>by_cases h2:126<bt tx i<;>simp[h1,h2,Ak]<;>omega) (by simp[dw])
 unfold O7 B4;simp only[h,Hl,JZ,A9];unfold MD;by_cases h1:(tx.size:Int)<1<;>by_cases h2:(24:Int)<tx.size<;>cases isN fr<;>cases isN tt<;>cases inB nu 1 99<;>cases inB un 1 999<;>cases tin tx<;>simp[h1,h2,AM,inB]<;>omega
def Fp(m:Mark):Bool:=isN m.mf&&(inB m.mn 1 99&&inB m.mu 1 999)
@[simp] theorem ao7 {a b c:Int} :fG ((a,b,c,()),())=I ((Fp ⟨a,b,c⟩,()),()):=by
 unfold fG Fp;simp only[ED,Jb,A9];cases isN a<;>cases inB b 1 99<;>simp[Ak]
def bef(a b c d:Int):Bool:=A1 (a<c)||(A1 (a=c)&&A1 (b<d))
@[simp] theorem S3 {a b c d:Int} :LP (a,b,c,d,())=I ((bef a b c d,()),()):=rfl
@[simp] theorem WW {a b c d:Int} :MT (a,b,c,d,())=I ((bef a b c d,()),()):=rfl
def nA(l:List A6)(i:Nat):A6:=l.getD i<|dfl .note
def mA(l:List Mark)(i:Nat):Mark:=l.getD i<|dfl .mark
def Cc(l:List A6)(i:Nat): @rd A6 (dfl .note) l (i:Int)=nA l i:=rfl
def F4(l:List Mark)(i:Nat): @rd Mark (dfl .mark) l (i:Int)=mA l i:=rfl
def F5(l:List A6):Bool:=At l.length λi=>B4 (nA l i)&&(A1 (i=0)||bef (nA l<|i - 1).fr (nA l<|i - 1).nu (nA l i).fr (nA l i).nu)
def Hq(l:List Mark):Bool:=At l.length λi=>Fp (mA l i)&&(A1 (i=0)||bef (mA l<|i - 1).mf (mA l<|i - 1).mn (mA l i).mf (mA l i).mn)
def Tj{l:List A6}(h:∀x∈l,G2 x)(i:Nat):(nA l i).tx.size<=1048576:=by
 unfold nA;cases hx:l[i]? with
 | none=>simp[hx,dfl];decide
 | some x=>
  have h1:x.tx.size<=1048576:=h x<|Cb hx;rw[B9,hx];exact h1
def XX{i n:Nat}(h:i<n)(hn:n<=9223372036854775807):w64 ((i:Int) - 1)=(i:Int) - 1:=AZ J J
def xj{l:List A6}(hl:l.length<=1048576)(h:∀x∈l,G2 x):VZ (l,())=I ((F5 l,()),()):=by
 have h:pr (l,l,(l.length:Int),0,())=I (if F5 l then .inr () else .inl (A3,())):=
  Cm (λi=>(l,l,(l.length:Int),(i:Int),())) l.length (λi=>B4 (nA l i)&&(A1 (i=0)||bef (nA l<|i - 1).fr (nA l<|i - 1).nu (nA l i).fr (nA l i).nu)) (A3,()) () (λi hi=>by
   unfold dE;simp only[AP hi,B7 hi,Cc,Vy<|Tj h i,A9,S3,B5 hi (by omega:l.length<=9223372036854775807)];cases i with
   | zero=>rcases tf (B4<|nA l 0) with h1|h1<;>simp only[h1]<;>simp
   | succ j=>
    rw[XX hi J,show((j+1:Nat):Int) - 1=(j:Int) by omega,AP<|show j<l.length by omega];simp only[Cc];rcases tf (B4<|nA l<|j+1) with h1|h1<;>rcases tf (bef (nA l j).fr (nA l j).nu (nA l<|j+1).fr (nA l<|j+1).nu) with h2|h2<;>simp only[h1,h2]<;>simp[h2]) (by simp[dE])
 unfold VZ;simp only[h];cases F5 l<;>simp[AM]
def wm{l:List A6}{Dq:Int}(hl:l.length<=1048576)(h:∀x∈l,G2 x):VH (l,Dq,())=I ((A1 ((l.length:Int)<=Dq)&&F5 l,()),()):=by
 have h:pO (l,0,())=I (if F5 l then .inr () else .inl (A3,())):=
  Cm (λi=>(l,(i:Int),())) l.length (λi=>B4 (nA l i)&&(A1 (i=0)||bef (nA l<|i - 1).fr (nA l<|i - 1).nu (nA l i).fr (nA l i).nu)) (A3,()) () (λi hi=>by
   unfold cM;simp only[AP hi,B7 hi,Cc,Vt<|Tj h i,A9,WW,B5 hi (by omega:l.length<=9223372036854775807)];cases i with
   | zero=>rcases tf (B4<|nA l 0) with h1|h1<;>simp only[h1]<;>simp
   | succ j=>
    rw[XX hi J,show((j+1:Nat):Int) - 1=(j:Int) by omega,AP<|show j<l.length by omega];simp only[Cc];rcases tf (B4<|nA l<|j+1) with h1|h1<;>rcases tf (bef (nA l j).fr (nA l j).nu (nA l<|j+1).fr (nA l<|j+1).nu) with h2|h2<;>simp only[h1,h2]<;>simp[h2]) (by simp[cM])
 unfold VH;simp only[h];by_cases hm:(l.length:Int)<=Dq
 .rw[show A1 (Dq<(l.length:Int))=A3 by simpa using hm];cases F5 l<;>simp[AM,hm]
 .rw[show A1 (Dq<(l.length:Int))=A0 by simpa using hm];simp[hm]
def amd{l:List Mark}(hl:l.length<=1048576):eC (l,())=I ((Hq l,()),()):=by
 have h:pw (l,l,(l.length:Int),0,())=I (if Hq l then .inr () else .inl (A3,())):=
  Cm (λi=>(l,l,(l.length:Int),(i:Int),())) l.length (λi=>Fp (mA l i)&&(A1 (i=0)||bef (mA l<|i - 1).mf (mA l<|i - 1).mn (mA l i).mf (mA l i).mn)) (A3,()) () (λi hi=>by
   unfold dG;simp only[AP hi,B7 hi,F4,ao7,A9,S3,B5 hi (by omega:l.length<=9223372036854775807)];cases i with
   | zero=>rcases tf (Fp<|mA l 0) with h1|h1<;>simp only[h1]<;>simp
   | succ j=>
    rw[XX hi J,show((j+1:Nat):Int) - 1=(j:Int) by omega,AP<|show j<l.length by omega];simp only[F4];rcases tf (Fp<|mA l<|j+1) with h1|h1<;>rcases tf (bef (mA l j).mf (mA l j).mn (mA l<|j+1).mf (mA l<|j+1).mn) with h2|h2<;>simp only[h1,h2]<;>simp[h2]) (by simp[dG])
 unfold eC;simp only[h];cases Hq l<;>simp[AM]
def ajs{l:List Mark}(hl:l.length<=1048576):dZ (l,())=I ((A1 ((l.length:Int)<=12)&&Hq l,()),()):=by
 have h:pP (l,0,())=I (if Hq l then .inr () else .inl (A3,())):=
  Cm (λi=>(l,(i:Int),())) l.length (λi=>Fp (mA l i)&&(A1 (i=0)||bef (mA l<|i - 1).mf (mA l<|i - 1).mn (mA l i).mf (mA l i).mn)) (A3,()) () (λi hi=>by
   unfold cN Fp;simp only[AP hi,B7 hi,F4,Hl,JZ,A9,WW,B5 hi (by omega:l.length<=9223372036854775807)];cases i with
   | zero=>rcases tf (isN (mA l 0).mf) with h1|h1<;>rcases tf (inB (mA l 0).mn 1 99) with h2|h2<;>rcases tf (inB (mA l 0).mu 1 999) with h3|h3<;>simp only[h1,h2,h3]<;>simp
   | succ j=>
    rw[XX hi J,show((j+1:Nat):Int) - 1=(j:Int) by omega,AP<|show j<l.length by omega];simp only[F4];rcases tf (isN (mA l<|j+1).mf) with h1|h1<;>rcases tf (inB (mA l<|j+1).mn 1 99) with h2|h2<;>rcases tf (inB (mA l<|j+1).mu 1 999) with h3|h3<;>rcases tf (bef (mA l j).mf (mA l j).mn (mA l<|j+1).mf (mA l<|j+1).mn) with h4|h4<;>simp only[h1,h2,h3]<;>simp[h4]<;>omega) (by simp[cN])
 unfold dZ;simp only[h];by_cases hm:(l.length:Int)<=12
 .rw[show A1 ((12:Int)<(l.length:Int))=A3 by simpa using hm];cases Hq l<;>simp[AM,hm]
 .rw[show A1 ((12:Int)<(l.length:Int))=A0 by simpa using hm];simp[hm]
def AY(l:List A6)(f n:Int):Int:=Fj l.length λi=>A1 ((nA l i).fr=f)&&A1 ((nA l i).nu=n)
def Bs(l:List Mark)(f n:Int):Int:=Fj l.length λi=>A1 ((mA l i).mf=f)&&A1 ((mA l i).mn=n)
def SY{n:Nat}{p:Nat->Bool}:AM (I<|if Fj n p<0 then(.inr ():(Int×A2) ⊕ A2) else .inl (Fj n p,())) (λy=>I ((y.1,()),())) (λ_=>I ((-1,()),()))=I ((Fj n p,()),()):=by
 rcases GL n p with⟨h,_⟩|⟨i,h,_⟩
 .rw[h];rfl
 .rw[AD J];rfl
def Ja{l:List A6}{f n:Int}(hl:l.length<=1048576):Gg (l,f,n,())=I ((AY l f n,()),()):=by
 have h:qn (f,n,l,(l.length:Int),0,())=I (if AY l f n<0 then .inr () else .inl (AY l f n,())):=
  Q1 (λi=>(f,n,l,(l.length:Int),(i:Int),())) l.length (λi=>A1 ((nA l i).fr=f)&&A1 ((nA l i).nu=n)) (λi=>(i,())) () (λi hi=>by
   unfold eS;simp only[AP hi,B7 hi,Cc,B5 hi (by omega:l.length<=9223372036854775807)];by_cases h1:(nA l i).fr=f<;>by_cases h2:(nA l i).nu=n<;>simp[h1,h2]) (by simp[eS])
 unfold Gg;simp only[h];exact SY
def JW{l:List A6}{f n:Int}(hl:l.length<=1048576):Fw (l,f,n,())=I ((AY l f n,()),()):=by
 have h:qH (l,f,n,0,())=I (if AY l f n<0 then .inr () else .inl (AY l f n,())):=
  Q1 (λi=>(l,f,n,(i:Int),())) l.length (λi=>A1 ((nA l i).fr=f)&&A1 ((nA l i).nu=n)) (λi=>(i,())) () (λi hi=>by
   unfold cm;simp only[AP hi,B7 hi,Cc,B5 hi (by omega:l.length<=9223372036854775807)];by_cases h1:(nA l i).fr=f<;>by_cases h2:(nA l i).nu=n<;>simp[h1,h2]) (by simp[cm])
 unfold Fw;simp only[h];exact SY
def S1{l:List Mark}{f n:Int}(hl:l.length<=1048576):KM (l,f,n,())=I ((Bs l f n,()),()):=by
 have h:qe (f,n,l,(l.length:Int),0,())=I (if Bs l f n<0 then .inr () else .inl (Bs l f n,())):=
  Q1 (λi=>(f,n,l,(l.length:Int),(i:Int),())) l.length (λi=>A1 ((mA l i).mf=f)&&A1 ((mA l i).mn=n)) (λi=>(i,())) () (λi hi=>by
   unfold eF;simp only[AP hi,B7 hi,F4,B5 hi (by omega:l.length<=9223372036854775807)];by_cases h1:(mA l i).mf=f<;>by_cases h2:(mA l i).mn=n<;>simp[h1,h2]) (by simp[eF])
 unfold KM;simp only[h];exact SY
def Ru{l:List Mark}{f n:Int}(hl:l.length<=1048576):KN (l,f,n,())=I ((Bs l f n,()),()):=by
 have h:qG (l,f,n,0,())=I (if Bs l f n<0 then .inr () else .inl (Bs l f n,())):=
  Q1 (λi=>(l,f,n,(i:Int),())) l.length (λi=>A1 ((mA l i).mf=f)&&A1 ((mA l i).mn=n)) (λi=>(i,())) () (λi hi=>by
   unfold db;simp only[AP hi,B7 hi,F4,B5 hi (by omega:l.length<=9223372036854775807)];by_cases h1:(mA l i).mf=f<;>by_cases h2:(mA l i).mn=n<;>simp[h1,h2]) (by simp[db])
 unfold KN;simp only[h];exact SY
def Lm(id:Int)(fr tt:Int):Bool:= !decide (id=tt)&&(inB id fr tt||inB id tt fr)
def iX{id fr nu tt un:Int}{tx:A4}:WE (id,(fr,nu,tt,un,tx,()),())=I ((Lm id fr tt,()),()):=by
 unfold WE Lm;simp only[ED];by_cases h:id=tt<;>cases inB id fr tt<;>simp[h]
def gZ{id fr nu tt un:Int}{tx:A4}:ez ((fr,nu,tt,un,tx,()),id,())=I ((Lm id fr tt,()),()):=by
 unfold ez Lm inB;by_cases h1:fr<=id
 .simp only[h1,AU,A5];congr 3;rw[M5];simp;omega
 .have e:(A1 (tt<id)&&A1 (id<=fr))=(!decide (id=tt)&&(A1 (fr<=id)&&A1 (id<=tt)||decide (tt<=id)&&A1 (id<=fr))):=by
   rw[M5];simp only[AE,CB,CL,decide_eq_true_eq,decide_eq_false_iff_not];omega
  rw[← e];simp[h1]
structure DR (held:List A6) (marks:List Mark) (inbox:List A6):Prop where
 hl:held.length<=1048576
 h:∀x∈held,G2 x
 ml:marks.length<=1048576
 il:inbox.length<=1048576
 i:∀x∈inbox,G2 x
def IV(id ti nx:Int)(held:List A6)(marks:List Mark)(i:Nat):Bool:= !(A1 ((nA held i).fr=id)&&A1 (nx<=(nA held i).nu))&&(A1 (ti<(nA held i).un)&&(Lm id (nA held i).fr (nA held i).to&&A1 (Bs marks (nA held i).fr (nA held i).nu<0)))
def KV(id ti nx:Int)(marks:List Mark)(i:Nat):Bool:=A1 (ti<(mA marks i).mu)&& !(A1 ((mA marks i).mf=id)&&A1 (nx<=(mA marks i).mn))
def Je(id ti nx:Int)(marks:List Mark)(inbox:List A6)(i:Nat):Bool:=A1 ((nA inbox i).to=id)&&(!(A1 ((nA inbox i).fr=id)&&A1 (nx<=(nA inbox i).nu))&&(!decide (ti<(nA inbox i).un)||decide (0<=Bs marks (nA inbox i).fr (nA inbox i).nu)))
def Aw(k:AG):Bool:=isN k.id&&(inB k.ti 0 999&&(inB k.nx 1 100&&((A1 ((k.held.length:Int)<=6)&&F5 k.held)&&((A1 ((k.marks.length:Int)<=12)&&Hq k.marks)&&((A1 ((k.inbox.length:Int)<=6)&&F5 k.inbox)&&
 (At k.held.length (IV k.id k.ti k.nx k.held k.marks)&&(At k.marks.length (KV k.id k.ti k.nx k.marks)&&At k.inbox.length (Je k.id k.ti k.nx k.marks k.inbox))))))))
def ar1(l:List Mark)(f n:Int):Bs l f n= -1\/0<=Bs l f n:=by
 rcases GL l.length (λi=>A1 ((mA l i).mf=f)&&A1 ((mA l i).mn=n)) with⟨h,_⟩|⟨i,h,_⟩
 .exact .inl h
 .exact .inr (by unfold Bs;omega)
def tfp(p:Prop):(p=True)\/(p=False):=by
 by_cases h:p
 .exact .inl (eq_true h)
 .exact .inr<|eq_false h
def sgn(n:Int):((n<0)=True/\(0<=n)=False)\/((n<0)=False/\(0<=n)=True):=by
 by_cases h:n<0
 .exact .inl ⟨eq_true h,eq_false J⟩
 .exact .inr ⟨eq_false h,eq_true J⟩
def ET(a b:Int):((a<=b)=True/\(b<a)=False)\/((a<=b)=False/\(b<a)=True):=by
 by_cases h:a<=b
 .exact .inl ⟨eq_true h,eq_false J⟩
 .exact .inr ⟨eq_false h,eq_true J⟩
def aBD(l:List A6)(f n:Int):AY l f n= -1\/0<=AY l f n:=by
 rcases GL l.length (λi=>A1 ((nA l i).fr=f)&&A1 ((nA l i).nu=n)) with⟨h,_⟩|⟨i,h,_⟩
 .exact .inl h
 .exact .inr (by unfold AY;omega)
def amF{id ti nx:Int}{held:List A6}{marks:List Mark}{inbox:List A6}(sm:DR held marks inbox):
  qp ((id,ti,nx,held,marks,inbox,()),held,(held.length:Int),0,())=I (if At held.length (IV id ti nx held marks) then .inr ((id,ti,nx,held,marks,inbox,()),()) else .inl (A3,())):=
 Cm (λi=>((id,ti,nx,held,marks,inbox,()),held,(held.length:Int),(i:Int),())) held.length (IV id ti nx held marks) (A3,()) ((id,ti,nx,held,marks,inbox,()),()) (λi hi=>by
  unfold eY IV;have hl:held.length<=9223372036854775807:=by have:=sm.hl;omega
  simp only[AP hi,B7 hi,Cc,F4,S1 sm.ml,iX,A9,B5 hi hl];have h4:=sgn<|Bs marks (nA held i).fr (nA held i).nu;rcases tfp ((nA held i).fr=id) with h1|h1<;>rcases tfp (nx<=(nA held i).nu) with h2|h2<;>rcases ET (nA held i).un ti with h3|h3<;>obtain h4|h4:=h4<;>rcases tf (Lm id (nA held i).fr (nA held i).to) with h5|h5<;>simp[h1,h2,h5,h4,h3]) (by simp[eY])
def xf{id ti nx:Int}{held:List A6}{marks:List Mark}{inbox:List A6}(sm:DR held marks inbox):
  qo ((id,ti,nx,held,marks,inbox,()),marks,(marks.length:Int),0,())=I (if At marks.length (KV id ti nx marks) then .inr ((id,ti,nx,held,marks,inbox,()),()) else .inl (A3,())):=
 Cm (λi=>((id,ti,nx,held,marks,inbox,()),marks,(marks.length:Int),(i:Int),())) marks.length (KV id ti nx marks) (A3,()) ((id,ti,nx,held,marks,inbox,()),()) (λi hi=>by
  unfold eX KV;have hl:marks.length<=9223372036854775807:=by have:=sm.ml;omega
  simp only[AP hi,B7 hi,Cc,F4,S1 sm.ml,iX,A9,B5 hi hl];rcases tfp ((mA marks i).mf=id) with h1|h1<;>rcases tfp (nx<=(mA marks i).mn) with h2|h2<;>rcases ET (mA marks i).mu ti with h3|h3<;>simp[h1,h2,h3]) (by simp[eX])
def xe{id ti nx:Int}{held:List A6}{marks:List Mark}{inbox:List A6}(sm:DR held marks inbox):
  qc ((id,ti,nx,held,marks,inbox,()),inbox,(inbox.length:Int),0,())=I (if At inbox.length (Je id ti nx marks inbox) then .inr () else .inl (A3,())):=
 Cm (λi=>((id,ti,nx,held,marks,inbox,()),inbox,(inbox.length:Int),(i:Int),())) inbox.length (Je id ti nx marks inbox) (A3,()) () (λi hi=>by
  unfold eW Je;have hl:inbox.length<=9223372036854775807:=by have:=sm.il;omega
  simp only[AP hi,B7 hi,Cc,F4,S1 sm.ml,iX,A9,B5 hi hl];have h4:=sgn<|Bs marks (nA inbox i).fr (nA inbox i).nu;rcases tfp ((nA inbox i).fr=id) with h1|h1<;>rcases tfp (nx<=(nA inbox i).nu) with h2|h2<;>rcases ET (nA inbox i).un ti with h3|h3<;>rcases tfp ((nA inbox i).to=id) with h0|h0<;>obtain h4|h4:=h4<;>simp[h1,h2,h0,h4,h3]) (by simp[eW])
def alp{id ti nx:Int}{held:List A6}{marks:List Mark}{inbox:List A6}(sm:DR held marks inbox):
  qV ((id,ti,nx,held,marks,inbox,()),0,())=I (if At held.length (IV id ti nx held marks) then .inr ((id,ti,nx,held,marks,inbox,()),()) else .inl (A3,())):=
 Cm (λi=>((id,ti,nx,held,marks,inbox,()),(i:Int),())) held.length (IV id ti nx held marks) (A3,()) ((id,ti,nx,held,marks,inbox,()),()) (λi hi=>by
  unfold dn IV;have hl:held.length<=9223372036854775807:=by have:=sm.hl;omega
  simp only[AP hi,B7 hi,Cc,F4,Ru sm.ml,gZ,A9,B5 hi hl];have h4:=sgn<|Bs marks (nA held i).fr (nA held i).nu;rcases tfp ((nA held i).fr=id) with h1|h1<;>rcases tfp (nx<=(nA held i).nu) with h2|h2<;>rcases ET (nA held i).un ti with h3|h3<;>obtain h4|h4:=h4<;>rcases tf (Lm id (nA held i).fr (nA held i).to) with h5|h5<;>simp[h1,h2,h5,h4,h3]) (by simp[dn])
def xD{id ti nx:Int}{held:List A6}{marks:List Mark}{inbox:List A6}(sm:DR held marks inbox):
  qU ((id,ti,nx,held,marks,inbox,()),0,())=I (if At marks.length (KV id ti nx marks) then .inr ((id,ti,nx,held,marks,inbox,()),()) else .inl (A3,())):=
 Cm (λi=>((id,ti,nx,held,marks,inbox,()),(i:Int),())) marks.length (KV id ti nx marks) (A3,()) ((id,ti,nx,held,marks,inbox,()),()) (λi hi=>by
  unfold dm KV;have hl:marks.length<=9223372036854775807:=by have:=sm.ml;omega
  simp only[AP hi,B7 hi,Cc,F4,Ru sm.ml,gZ,A9,B5 hi hl];rcases tfp ((mA marks i).mf=id) with h1|h1<;>rcases tfp (nx<=(mA marks i).mn) with h2|h2<;>rcases ET (mA marks i).mu ti with h3|h3<;>simp[h1,h2,h3]) (by simp[dm])
def xC{id ti nx:Int}{held:List A6}{marks:List Mark}{inbox:List A6}(sm:DR held marks inbox):
  qT ((id,ti,nx,held,marks,inbox,()),0,())=I (if At inbox.length (Je id ti nx marks inbox) then .inr () else .inl (A3,())):=
 Cm (λi=>((id,ti,nx,held,marks,inbox,()),(i:Int),())) inbox.length (Je id ti nx marks inbox) (A3,()) () (λi hi=>by
  unfold dk Je;have hl:inbox.length<=9223372036854775807:=by have:=sm.il;omega
  simp only[AP hi,B7 hi,Cc,F4,Ru sm.ml,gZ,A9,B5 hi hl];have h4:=sgn<|Bs marks (nA inbox i).fr (nA inbox i).nu;rcases tfp ((nA inbox i).fr=id) with h1|h1<;>rcases tfp (nx<=(nA inbox i).nu) with h2|h2<;>rcases ET (nA inbox i).un ti with h3|h3<;>rcases tfp ((nA inbox i).to=id) with h0|h0<;>obtain h4|h4:=h4<;>simp[h1,h2,h0,h4,h3]) (by simp[dk])
def gx{id ti nx:Int}{held:List A6}{marks:List Mark}{inbox:List A6}(sm:DR held marks inbox):Ps ((id,ti,nx,held,marks,inbox,()),())=I ((Aw ⟨id,ti,nx,held,marks,inbox⟩,()),()):=by
 unfold Ps Aw;simp only[ED,Jb,xj sm.hl sm.h,xj sm.il sm.i,amd sm.ml,amF sm,xf sm,xe sm,A9];rcases tf (isN id) with h1|h1<;>simp only[h1,AB,AI,A5,AO,AW,A7];rcases tf (inB ti 0 999) with h2|h2<;>simp only[h2,AB,AI,A5,AO,AW,A7];rcases tf (inB nx 1 100) with h3|h3<;>simp only[h3,AB,AI,A5,AO,AW,A7];rcases ET (held.length:Int) 6 with h4|h4<;>rcases ET (marks.length:Int) 12 with h5|h5<;>rcases ET (inbox.length:Int) 6 with h6|h6<;>simp only[h4,h5,h6,AU,Ae,A5,AO,Bc,AW,A7];rcases tf (F5 held) with h7|h7<;>rcases tf (Hq marks) with h8|h8<;>rcases tf (F5 inbox) with h9|h9<;>simp only[h7,h8,h9,AB,AI,A5,AO,Bc,AW,A7];rcases tf (At held.length<|IV id ti nx held marks) with h10|h10<;>rcases tf (At marks.length<|KV id ti nx marks) with h11|h11<;>rcases tf (At inbox.length<|Je id ti nx marks inbox) with h12|h12<;>simp only[h10,h11,h12,A5,CR,Gk,A7,xf sm,xe sm]<;>rfl
def gb{id ti nx:Int}{held:List A6}{marks:List Mark}{inbox:List A6}(sm:DR held marks inbox):Pp ((id,ti,nx,held,marks,inbox,()),())=I ((Aw ⟨id,ti,nx,held,marks,inbox⟩,()),()):=by
 unfold Pp Aw;simp only[Hl,JZ,wm sm.hl sm.h,wm sm.il sm.i,ajs sm.ml,alp sm,xD sm,xC sm,A9];rcases tf (isN id) with h1|h1<;>simp only[h1,AB,AI,A5,AO,AW,A7];rcases tf (inB ti 0 999) with h2|h2<;>simp only[h2,AB,AI,A5,AO,AW,A7];rcases tf (inB nx 1 100) with h3|h3<;>simp only[h3,AB,AI,A5,AO,AW,A7];rcases tf (A1 ((held.length:Int)<=6)&&F5 held) with h7|h7<;>rcases tf (A1 ((marks.length:Int)<=12)&&Hq marks) with h8|h8<;>rcases tf (A1 ((inbox.length:Int)<=6)&&F5 inbox) with h9|h9<;>simp only[h7,h8,h9,AB,AI,A5,AO,Bc,AW,A7];rcases tf (At held.length<|IV id ti nx held marks) with h10|h10<;>rcases tf (At marks.length<|KV id ti nx marks) with h11|h11<;>rcases tf (At inbox.length<|Je id ti nx marks inbox) with h12|h12<;>simp only[h10,h11,h12,A5,CR,Gk,A7,xD sm,xC sm]<;>rfl
def Lf{α:Type}{l:List α}{d:α}(hl:l.length<=1048576):
  (if A1 ((l.length:Int)=0) then I ((([]:List α),()),()) else if A1 (0<=(l.length:Int))&&A1 ((l.length:Int)<=4294967296) then I (((BH (BT (AL (l.length:Int)) d).length l++Bm l.length (BT (AL (l.length:Int)) d)),()),()) else U)=I ((l,()),()):=by
 by_cases h:(l.length:Int)=0
 .have:l=[]:=E6 J;subst this;rfl
 .have h1:(l.length:Int)<=4294967296:=J
  have h2:0<=(l.length:Int):=J
  simp[h1]
def bN{l:List A6}(hl:l.length<=1048576):Ny (l,())=I ((l,()),()):=Lf hl
def afz{l:List Mark}(hl:l.length<=1048576):py (l,())=I ((l,()),()):=Lf hl
def p8{l:List A4}(hl:l.length<=1048576):RM (l,())=I ((l,()),()):=Lf hl
def wT{id ti nx:Int}{held:List A6}{marks:List Mark}{inbox:List A6}(sm:DR held marks inbox):Rf ((id,ti,nx,held,marks,inbox,()),())=I (((id,ti,nx,held,marks,inbox,()),()),()):=by
 unfold Rf;simp only[bN sm.hl,afz sm.ml,bN sm.il,A9]
def B8{n:Nat}(h:n<=4294967296):Ac n=A0:=by simpa[Ac] using h
def xJ{id ti nx:Int}{held:List A6}{marks:List Mark}{inbox:List A6}(sm:DR held marks inbox):Rv ((id,ti,nx,held,marks,inbox,()),())=I (((id,ti,nx,held,marks,inbox,()),()),()):=by
 unfold Rv;have h1:=sm.hl;have h2:=sm.ml;have h3:=sm.il;simp only[CA,DF,EM,B8<|show held.length<=4294967296 by omega,B8<|show marks.length<=4294967296 by omega,B8<|show inbox.length<=4294967296 by omega,A5]
def ajU{id:Int}:cc (id,())=I ((if isN id then(id,0,1,[],[],[],()) else(0,0,0,[],[],[],()),()),()):=by
 unfold cc;simp only[Jb,A9];cases isN id<;>rfl
def aix{id:Int}:cT (id,())=I ((if isN id then(id,0,1,[],[],[],()) else(0,0,0,[],[],[],()),()),()):=by
 unfold cT;simp only[JZ,A9];cases isN id<;>rfl
end Go.VS
end
