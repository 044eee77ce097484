/- Part 18. -/
import Derived.Test.YtgjljlpdfceilaaGreatDoorQAQ
open Bool renaming and_eq_true->AG,and_false->Bc,eq_iff_iff->Ke,false->A3,false_and->AS,not_eq_true'->C1,not_false->AK,not_true->AF,or_eq_true->Br,true->U,true_and->AY
open ByteArray renaming data_extract->bO
open Decidable renaming decide->A1
open Go.IntKind renaming wrap->bT
open Int renaming toNat->AR
open List renaming drop->Bv,eq_nil_of_length_eq_zero->E7,getD_eq_getElem?_getD->BC,length_nil->CN,mem_of_getElem?->Cu,nil_append->En,replicate->BV,take->BS
open Nat renaming le_refl->Az,lt_or_ge->Gm,sub_self->Pm,zero_add->DT,zero_le->D7
open Option renaming bind_some->A9,none->A0,some->I
set_option linter.all false
noncomputable section
namespace Go.VS
open Go
section
variable {σ ρ β γ:Type} {b:σ->Option (σ ⊕ ρ)}
def BE{x:σ}{y:ρ}(h:b x=I (.inr y)):AW b x=I y:=aG0 (n:=1)<|by simp[Hv,h]
def Ap{x x':σ}{y:ρ}(h:b x=I (.inl x'))(hy:AW b x'=I y):AW b x=I y:=by
 obtain⟨n,hn⟩:=aGZ hy;exact aG0 (n:=n+1)<|by simp[Hv,h,hn]
def CG(st:Nat->σ)(n:Nat){y:ρ}(h:∀i,i<n->b (st i)=I (.inl<|st<|i+1))(hn:b (st n)=I (.inr y)):AW b (st 0)=I y:=by
 have:∀k,k<=n->AW b (st<|n - k)=I y:=by
  intro k
  induction k with
  | zero=>intro _;exact BE hn
  | succ k ih=>
   intro hk;refine Ap (h (n - (k+1)) J) ?_;rw[show n - (k+1)+1=n - k by omega];exact ih J
 have:=this n<|Az _;rwa[Pm]at this
def axA(Inv:Nat->σ->Prop)(OK:ρ->Prop)(n:Nat)(sn:∀i s,i<n->Inv i s->(∃s',b s=I (.inl s')/\Inv (i+1) s')\/(∃r,b s=I (.inr r)/\OK r))
  (oQ:∀s,Inv n s->∃r,b s=I (.inr r)/\OK r){s0:σ}(h0:Inv 0 s0):∃r,AW b s0=I r/\OK r:=by
 have:∀k,k<=n->∀s,Inv (n - k) s->∃r,AW b s=I r/\OK r:=by
  intro k
  induction k with
  | zero=>
   intro _ s hs;obtain⟨r,h1,h2⟩:=oQ s hs;exact⟨r,BE h1,h2⟩
  | succ k ih=>
   intro hk s hs;rcases sn _ s J hs with⟨s',h1,h2⟩|⟨r,h1,h2⟩
   .rw[show n - (k+1)+1=n - k by omega]at h2;obtain⟨r,h3,h4⟩:=ih J s' h2;exact⟨r,Ap h1 h3,h4⟩
   .exact⟨r,BE h1,h2⟩
 exact this n (Az _) s0<|by rwa[Pm]
end
def H6{β:Type}(q:Nat->Option β):Nat->Nat->Option β
 | 0,_=>A0
 | k+1,i=>match q i with
  | some r=>I r
  | none=>H6 q k (i+1)
section
variable {σ β γ:Type} {b:σ->Option (σ ⊕ (β ⊕ γ))}
def aGa(st:Nat->σ)(n:Nat)(q:Nat->Option β)(fin:γ)
  (h:∀i,i<n->b (st i)=I (match q i with|none=> .inl (st<|i+1)|some r=> .inr<|.inl r))
  (hn:b (st n)=I (.inr<|.inr fin)):AW b (st 0)=I (match H6 q n 0 with|none=> .inr fin|some r=> .inl r):=by
 have:∀k,k<=n->AW b (st<|n - k)=I (match H6 q k (n - k) with|none=> .inr fin|some r=> .inl r):=by
  intro k
  induction k with
  | zero=>intro _;exact BE hn
  | succ k ih=>
   intro hk;have h1:=h (n - (k+1)) J;unfold H6;cases hq:q (n - (k+1)) with
   | some r=>rw[hq]at h1;exact BE h1
   | none=>
    rw[hq]at h1;refine Ap h1 ?_;rw[show n - (k+1)+1=n - k by omega];exact ih J
 have:=this n<|Az _;rwa[Pm]at this
def MN(p:Nat->Bool):Nat->Nat->Bool
 | 0,_=>U
 | k+1,i=>p i&&MN p k (i+1)
def As(n:Nat)(p:Nat->Bool):Bool:=MN p n 0
def aI3{p:Nat->Bool}{r:β}:∀(k i:Nat),H6 (λi=>if p i then A0 else I r) k i=if MN p k i then A0 else I r
 | 0,_=>rfl
 | k+1,i=>by
  unfold H6 MN;cases hp:p i
  .simp
  .simpa using aI3 k<|i+1
def Cs(st:Nat->σ)(n:Nat)(p:Nat->Bool)(r:β)(fin:γ)
  (h:∀i,i<n->b (st i)=I (if p i then .inl (st<|i+1) else .inr (.inl r)))
  (hn:b (st n)=I (.inr<|.inr fin)):AW b (st 0)=I (if As n p then .inr fin else .inl r):=by
 rw[aGa st n (λi=>if p i then A0 else I r) fin (λi hi=>by rw[h i hi];cases p i<;>rfl) hn,aI3,As];cases MN p n 0<;>rfl
def GF(n:Nat)(p:Nat->Bool):Int:=(H6 (λi=>if p i then I (i:Int) else A0) n 0).getD (-1)
def aI2{p:Nat->Bool}{f:Int->β}:∀(k i:Nat),H6 (λi=>if p i then I (f (i:Int)) else A0) k i=(H6 (λi=>if p i then I (i:Int) else A0) k i).map f
 | 0,_=>rfl
 | k+1,i=>by
  unfold H6;cases hp:p i
  .simpa using aI2 k (i+1)
  .simp
def nW{q:Nat->Option β}{r:β}:∀(k i:Nat),H6 q k i=I r->∃j,i<=j/\j<i+k/\q j=I r/\ ∀l,i<=l->l<j->q l=A0
 | 0,_,h=>by cases h
 | k+1,i,h=>by
  unfold H6 at h;split at h
  .rename_i r' hr;cases h;exact⟨i,Az _,J,hr,λl h1 h2=>by omega⟩
  .rename_i hr;obtain⟨j,h1,h2,h3,h4⟩:=nW k (i+1) h;exact⟨j,J,J,h3,λl h5 h6=>by
    rcases Gm i l with h7|h7
    .exact h4 l h7 h6
    .rw[show l=i by omega];exact hr⟩
def aGr{q:Nat->Option β}:∀(k i:Nat),H6 q k i=A0->∀l,i<=l->l<i+k->q l=A0
 | 0,_,_,l,h1,h2=>J
 | k+1,i,h,l,h1,h2=>by
  unfold H6 at h;split at h
  .cases h
  .rename_i hr;rcases Gm i l with h7|h7
   .exact aGr k (i+1) h l h7 J
   .rw[show l=i by omega];exact hr
def GR(n:Nat)(p:Nat->Bool):(GF n p= -1/\ ∀i,i<n->p i=A3)\/ ∃i:Nat,GF n p=i/\i<n/\p i=U/\ ∀l,l<i->p l=A3:=by
 unfold GF;cases h:H6 (λi=>if p i then I (i:Int) else A0) n 0 with
 | none=>
  refine .inl ⟨rfl,λi hi=> ?_⟩;have:=aGr n 0 h i (D7 _) J;cases hp:p i<;>simp[hp]at this ⊢
 | some r=>
  obtain⟨j,h1,h2,h3,h4⟩:=nW n 0 h;refine .inr ⟨j, ?_,J, ?_,λl hl=> ?_⟩
  .cases hp:p j<;>simp[hp]at h3;simp[h3]
  .cases hp:p j<;>simp[hp]at h3 ⊢
  .have:=h4 l (D7 _) hl;cases hp:p l<;>simp[hp]at this ⊢
def Qo(st:Nat->σ)(n:Nat)(p:Nat->Bool)(f:Int->β)(fin:γ)
  (h:∀i,i<n->b (st i)=I (if p i then .inr (.inl<|f (i:Int)) else .inl (st<|i+1)))
  (hn:b (st n)=I (.inr<|.inr fin)):AW b (st 0)=I (if GF n p<0 then .inr fin else .inl (f<|GF n p)):=by
 rw[aGa st n (λi=>if p i then I (f (i:Int)) else A0) fin (λi hi=>by rw[h i hi];cases p i<;>rfl) hn,aI2];rcases GR n p with⟨h1,_⟩|⟨i,h1,_⟩
 .rw[h1];unfold GF at h1;cases h2:H6 (λi=>if p i then I (i:Int) else A0) n 0 with
  | none=>simp
  | some r=>
   obtain⟨j,_,_,h3,_⟩:=nW n 0 h2;cases hp:p j<;>simp[hp]at h3;rw[h2]at h1;simp at h1;omega
 .rw[h1];unfold GF at h1;cases h2:H6 (λi=>if p i then I (i:Int) else A0) n 0 with
  | none=>rw[h2]at h1;simp at h1
  | some r=>
   rw[h2]at h1;simp at h1;subst h1;simp
end
def aEO{p:Nat->Bool}:∀(k i:Nat),MN p k i=U↔ ∀j,i<=j->j<i+k->p j=U
 | 0,_=>by simp only[MN,true_iff];intro j h1 h2;omega
 | k+1,i=>by
  unfold MN;rw[AG,aEO k<|i+1];constructor
  .rintro⟨h1,h2⟩ j h3 h4;rcases Gm i j with h7|h7
   .exact h2 j h7 J
   .rw[show j=i by omega];exact h1
  .intro h;exact⟨h i (Az _) J,λj h1 h2=>h j J J⟩
def CE{n:Nat}{p:Nat->Bool}:As n p=U↔ ∀i,i<n->p i=U:=by
 unfold As;rw[aEO];exact⟨λh i hi=>h i (D7 _) J,λh j _ h2=>h j J⟩
def CB{A D Ω:Type}{f:A->Option Ω}{g:D->Option Ω}{y:D}:AP (I<|.inr y) f g=g y:=rfl
def G8{A D Ω:Type}{f:A->Option Ω}{g:D->Option Ω}{y:A}:AP (I<|.inl y) f g=f y:=rfl
def Bj{X Ω:Type}{f:X->Option Ω}{y:X}:BW f (I<|.inr y)=f y:=rfl
def Ou{X Ω:Type}{f:X->Option Ω}{y:Ω}:BW f (I<|.inl y)=I y:=rfl
def Ac{n:Int}(h0: -9223372036854775808<=n)(h1:n<=9223372036854775807):w64 n=n:=by
 unfold w64;rw[IntKind.wrap_i64];omega
def Nb(n:Int):w8 n=n % 256:=by
 unfold w8 bT;simp[IntKind.signed,IntKind.bits]
def B4{i n:Nat}(h:i<n)(hn:n<=9223372036854775807):w64 ((i:Int)+1)=((i+1:Nat):Int):=by
 rw[Ac J J];omega
def PI{α:Type}(d:α)(xs:List α)(i:Nat):rd d xs (i:Int)=xs.getD i d:=rfl
def axB(i n:Nat):inb (i:Int) n=A1 (i<n):=by
 unfold inb;by_cases h:i<n
 .simp[h]
 .simp[h]
def AU{i n:Nat}(h:i<n):inb (i:Int) n=U:=by rw[axB];simpa using h
abbrev L(s:A4):List UInt8:=s.data.toList
def B2(s:A4):(L s).length=s.size:=rfl
def GG{s t:A4}(h:L s=L t):s=t:=by
 cases s;cases t;simp[L]at h;exact congrArg _ h
def Ge(s t:A4):L (s++t)=L s++L t:=by simp[L,ByteArray.data_append]
def EK(s:A4)(a b:Nat):L (s.extract a b)=((L s).drop a).take (b - a):=by
 simp[L,bO,Array.toList_extract,List.extract_eq_take_drop]
def C5(s t:A4):(s++t).size=s.size+t.size:=ByteArray.size_append ..
def L_B(l:List UInt8):L (B l)=l:=rfl
def BU(l:List UInt8):(B l).size=l.length:=rfl
def sB(l:List UInt8):L ⟨l.toArray⟩=l:=rfl
def KI(s:A4)(i:Nat):bt s (i:Int)=(((L s).getD i 0).toNat:Int):=rfl
def az1(s:A4)(i:Int):0<=bt s i:=by unfold bt;omega
def az2(s:A4)(i:Int):bt s i<=255:=by
 unfold bt;have:=(s.data.toList.getD i.toNat 0).toNat_lt;omega
end Go.VS
namespace Go.VS
open Go
def axI(m:AX):Prop:=m.da.size<=1048576
def PT(h:AJ):Prop:=h.got.length<=1048576/\ ∀m∈h.got,axI m
def Fc(k:AA):Prop:=k.log.size<=1048576/\k.AM.length<=1048576/\ ∀h∈k.AM,PT h
def aHy(p:AO):Prop:=p.data.size<=1048576
def GX(n:A6):Prop:=n.tx.size<=1048576
def JR{α:Type}{l:List α}{i:Nat}{x d:α}(h:l[i]? =I x):l.getD i d=x:=by simp[h]
def B9{i n:Nat}(h:i<n):A1 ((i:Int)<(n:Int))=U:=by simpa using h
structure HF (ks:List AA) (ls:List Bool) (ra:List AO) (se go:List A6):Prop where
 kl:ks.length<=1048576
 k:∀x∈ks,Fc x
 l:ls.length<=1048576
 rl:ra.length<=1048576
 r:∀x∈ra,aHy x
 sl:se.length<=1048576
 s:∀x∈se,GX x
 gl:go.length<=1048576
 g:∀x∈go,GX x
@[simp] theorem Hl (q:Bool):Ah A3 q=U:=by cases q<;>rfl
@[simp] theorem Im (q:Bool):Ah U q=q:=by cases q<;>rfl
def tf(b:Bool):b=U\/b=A3:=by cases b<;>simp
def inB(n lo hi:Int):Bool:=A1 (lo<=n)&&A1 (n<=hi)
def Ad{n lo hi:Int}:inB n lo hi=U↔lo<=n/\n<=hi:=by simp[inB]
abbrev isN(n:Int):Bool:=inB n 0 3
@[simp] theorem EW {n lo hi:Int} :CD (n,lo,hi,())=I ((inB n lo hi,()),()):=rfl
@[simp] theorem IB {n lo hi:Int} :DL (n,lo,hi,())=I ((inB n lo hi,()),()):=rfl
@[simp] theorem K7 {n:Int} :Fu (n,())=I ((isN n,()),()):=rfl
@[simp] theorem K9 {n:Int} :Fq (n,())=I ((isN n,()),()):=rfl
abbrev tin(s:A4):Bool:=As s.size λi=>inB (bt s i) 32 126
def Lk(s:A4):Bool:=inB s.size 1 24&&tin s
def aaN{s:A4}{i:Int}:w64 (bt s i)=bt s i:=Ac (by have:=az1 s i;omega) (by have:=az2 s i;omega)
@[simp] theorem apE {s:A4} (hs:s.size<=1048576):Oe (s,())=I ((Lk s,()),()):=by
 have h:vd (s,0,())=I (if tin s then .inr (s,()) else .inl (A3,())):=
  Cs (λi=>(s,(i:Int),())) s.size (λi=>inB (bt s i) 32 126) (A3,()) (s,()) (λi hi=>by
   unfold jE;simp only[AU hi,B9 hi,aaN,EW,A9,B4 hi (by omega:s.size<=9223372036854775807)];cases inB (bt s i) 32 126<;>rfl) (by simp[jE])
 unfold Oe;simp only[h];unfold Lk;cases tin s<;>simp[AP]
def B1(n:A6):Bool:=isN n.fr&&(isN n.to&&(inB n.nu 1 99&&(inB n.un 1 999&&Lk n.tx)))
@[simp] theorem Xe {fr nu tt un:Int} {tx:A4} (hs:tx.size<=1048576):Og ((fr,nu,tt,un,tx,()),())=I ((B1 ⟨fr,nu,tt,un,tx⟩,()),()):=by
 unfold Og B1;simp only[apE hs,EW,K7,A9];cases isN fr<;>cases isN tt<;>cases inB nu 1 99<;>cases inB un 1 999<;>simp[Ah]
@[simp] theorem XU {fr nu tt un:Int} {tx:A4} (hs:tx.size<=1048576):Od ((fr,nu,tt,un,tx,()),())=I ((B1 ⟨fr,nu,tt,un,tx⟩,()),()):=by
 have h:vS ((fr,nu,tt,un,tx,()),0,())=I (if tin tx then .inr () else .inl (A3,())):=
  Cs (λi=>((fr,nu,tt,un,tx,()),(i:Int),())) tx.size (λi=>inB (bt tx i) 32 126) (A3,()) () (λi hi=>by
   unfold ie;simp only[AU hi,B9 hi,B4 hi (by omega:tx.size<=9223372036854775807)];unfold inB;by_cases h1:bt tx i<32<;>by_cases h2:126<bt tx i<;>simp[h1,h2,Ah]<;>omega) (by simp[ie])
 unfold Od B1;simp only[h,IB,K9,A9];unfold Lk;by_cases h1:(tx.size:Int)<1<;>by_cases h2:(24:Int)<tx.size<;>cases isN fr<;>cases isN tt<;>cases inB nu 1 99<;>cases inB un 1 999<;>cases tin tx<;>simp[h1,h2,AP,inB]<;>omega
def FC(m:Mark):Bool:=isN m.mf&&(inB m.mn 1 99&&inB m.mu 1 999)
@[simp] theorem apG {a b c:Int} :jg ((a,b,c,()),())=I ((FC ⟨a,b,c⟩,()),()):=by
 unfold jg FC;simp only[EW,K7,A9];cases isN a<;>cases inB b 1 99<;>simp[Ah]
def bef(a b c d:Int):Bool:=A1 (a<c)||(A1 (a=c)&&A1 (b<d))
@[simp] theorem TK {a b c d:Int} :M8 (a,b,c,d,())=I ((bef a b c d,()),()):=rfl
@[simp] theorem YZ {a b c d:Int} :NE (a,b,c,d,())=I ((bef a b c d,()),()):=rfl
def nA(l:List A6)(i:Nat):A6:=l.getD i<|dfl .note
def mA(l:List Mark)(i:Nat):Mark:=l.getD i<|dfl .mark
def Ch(l:List A6)(i:Nat): @rd A6 (dfl .note) l (i:Int)=nA l i:=rfl
def FL(l:List Mark)(i:Nat): @rd Mark (dfl .mark) l (i:Int)=mA l i:=rfl
def DX(l:List A6):Bool:=As l.length λi=>B1 (nA l i)&&(A1 (i=0)||bef (nA l<|i - 1).fr (nA l<|i - 1).nu (nA l i).fr (nA l i).nu)
def Fe(l:List Mark):Bool:=As l.length λi=>FC (mA l i)&&(A1 (i=0)||bef (mA l<|i - 1).mf (mA l<|i - 1).mn (mA l i).mf (mA l i).mn)
def VO{l:List A6}(h:∀x∈l,GX x)(i:Nat):(nA l i).tx.size<=1048576:=by
 unfold nA;cases hx:l[i]? with
 | none=>simp[hx,dfl];decide
 | some x=>
  have h1:x.tx.size<=1048576:=h x<|Cu hx;rw[BC,hx];exact h1
def Zh{i n:Nat}(h:i<n)(hn:n<=9223372036854775807):w64 ((i:Int) - 1)=(i:Int) - 1:=Ac J J
def aBj{l:List A6}(hl:l.length<=1048576)(h:∀x∈l,GX x):XF (l,())=I ((DX l,()),()):=by
 have h:uZ (l,l,(l.length:Int),0,())=I (if DX l then .inr () else .inl (A3,())):=
  Cs (λi=>(l,l,(l.length:Int),(i:Int),())) l.length (λi=>B1 (nA l i)&&(A1 (i=0)||bef (nA l<|i - 1).fr (nA l<|i - 1).nu (nA l i).fr (nA l i).nu)) (A3,()) () (λi hi=>by
   unfold gr;simp only[AU hi,B9 hi,Ch,Xe<|VO h i,A9,TK,B4 hi (by omega:l.length<=9223372036854775807)];cases i with
   | zero=>rcases tf (B1<|nA l 0) with h1|h1<;>simp only[h1]<;>simp
   | succ j=>
    rw[Zh hi J,show((j+1:Nat):Int) - 1=(j:Int) by omega,AU<|show j<l.length by omega];simp only[Ch];rcases tf (B1<|nA l<|j+1) with h1|h1<;>rcases tf (bef (nA l j).fr (nA l j).nu (nA l<|j+1).fr (nA l<|j+1).nu) with h2|h2<;>simp only[h1,h2]<;>simp[h2]) (by simp[gr])
 unfold XF;simp only[h];cases DX l<;>simp[AP]
def aAZ{l:List A6}{EA:Int}(hl:l.length<=1048576)(h:∀x∈l,GX x):X2 (l,EA,())=I ((A1 ((l.length:Int)<=EA)&&DX l,()),()):=by
 have h:uC (l,0,())=I (if DX l then .inr () else .inl (A3,())):=
  Cs (λi=>(l,(i:Int),())) l.length (λi=>B1 (nA l i)&&(A1 (i=0)||bef (nA l<|i - 1).fr (nA l<|i - 1).nu (nA l i).fr (nA l i).nu)) (A3,()) () (λi hi=>by
   unfold gK;simp only[AU hi,B9 hi,Ch,XU<|VO h i,A9,YZ,B4 hi (by omega:l.length<=9223372036854775807)];cases i with
   | zero=>rcases tf (B1<|nA l 0) with h1|h1<;>simp only[h1]<;>simp
   | succ j=>
    rw[Zh hi J,show((j+1:Nat):Int) - 1=(j:Int) by omega,AU<|show j<l.length by omega];simp only[Ch];rcases tf (B1<|nA l<|j+1) with h1|h1<;>rcases tf (bef (nA l j).fr (nA l j).nu (nA l<|j+1).fr (nA l<|j+1).nu) with h2|h2<;>simp only[h1,h2]<;>simp[h2]) (by simp[gK])
 unfold X2;simp only[h];by_cases hm:(l.length:Int)<=EA
 .rw[show A1 (EA<(l.length:Int))=A3 by simpa using hm];cases DX l<;>simp[AP,hm]
 .rw[show A1 (EA<(l.length:Int))=U by simpa using hm];simp[hm]
def anu{l:List Mark}(hl:l.length<=1048576):ir (l,())=I ((Fe l,()),()):=by
 have h:ue (l,l,(l.length:Int),0,())=I (if Fe l then .inr () else .inl (A3,())):=
  Cs (λi=>(l,l,(l.length:Int),(i:Int),())) l.length (λi=>FC (mA l i)&&(A1 (i=0)||bef (mA l<|i - 1).mf (mA l<|i - 1).mn (mA l i).mf (mA l i).mn)) (A3,()) () (λi hi=>by
   unfold gv;simp only[AU hi,B9 hi,FL,apG,A9,TK,B4 hi (by omega:l.length<=9223372036854775807)];cases i with
   | zero=>rcases tf (FC<|mA l 0) with h1|h1<;>simp only[h1]<;>simp
   | succ j=>
    rw[Zh hi J,show((j+1:Nat):Int) - 1=(j:Int) by omega,AU<|show j<l.length by omega];simp only[FL];rcases tf (FC<|mA l<|j+1) with h1|h1<;>rcases tf (bef (mA l j).mf (mA l j).mn (mA l<|j+1).mf (mA l<|j+1).mn) with h2|h2<;>simp only[h1,h2]<;>simp[h2]) (by simp[gv])
 unfold ir;simp only[h];cases Fe l<;>simp[AP]
def ajI{l:List Mark}(hl:l.length<=1048576):iM (l,())=I ((A1 ((l.length:Int)<=12)&&Fe l,()),()):=by
 have h:uD (l,0,())=I (if Fe l then .inr () else .inl (A3,())):=
  Cs (λi=>(l,(i:Int),())) l.length (λi=>FC (mA l i)&&(A1 (i=0)||bef (mA l<|i - 1).mf (mA l<|i - 1).mn (mA l i).mf (mA l i).mn)) (A3,()) () (λi hi=>by
   unfold gL FC;simp only[AU hi,B9 hi,FL,IB,K9,A9,YZ,B4 hi (by omega:l.length<=9223372036854775807)];cases i with
   | zero=>rcases tf (isN (mA l 0).mf) with h1|h1<;>rcases tf (inB (mA l 0).mn 1 99) with h2|h2<;>rcases tf (inB (mA l 0).mu 1 999) with h3|h3<;>simp only[h1,h2,h3]<;>simp
   | succ j=>
    rw[Zh hi J,show((j+1:Nat):Int) - 1=(j:Int) by omega,AU<|show j<l.length by omega];simp only[FL];rcases tf (isN (mA l<|j+1).mf) with h1|h1<;>rcases tf (inB (mA l<|j+1).mn 1 99) with h2|h2<;>rcases tf (inB (mA l<|j+1).mu 1 999) with h3|h3<;>rcases tf (bef (mA l j).mf (mA l j).mn (mA l<|j+1).mf (mA l<|j+1).mn) with h4|h4<;>simp only[h1,h2,h3]<;>simp[h4]<;>omega) (by simp[gL])
 unfold iM;simp only[h];by_cases hm:(l.length:Int)<=12
 .rw[show A1 ((12:Int)<(l.length:Int))=A3 by simpa using hm];cases Fe l<;>simp[AP,hm]
 .rw[show A1 ((12:Int)<(l.length:Int))=U by simpa using hm];simp[hm]
def Ab(l:List A6)(f n:Int):Int:=GF l.length λi=>A1 ((nA l i).fr=f)&&A1 ((nA l i).nu=n)
def Bt(l:List Mark)(f n:Int):Int:=GF l.length λi=>A1 ((mA l i).mf=f)&&A1 ((mA l i).mn=n)
def Tt{n:Nat}{p:Nat->Bool}:AP (I<|if GF n p<0 then(.inr ():(Int×A2) ⊕ A2) else .inl (GF n p,())) (λy=>I ((y.1,()),())) (λ_=>I ((-1,()),()))=I ((GF n p,()),()):=by
 rcases GR n p with⟨h,_⟩|⟨i,h,_⟩
 .rw[h];rfl
 .rw[AD J];rfl
def KA{l:List A6}{f n:Int}(hl:l.length<=1048576):HJ (l,f,n,())=I ((Ab l f n,()),()):=by
 have h:vf (f,n,l,(l.length:Int),0,())=I (if Ab l f n<0 then .inr () else .inl (Ab l f n,())):=
  Qo (λi=>(f,n,l,(l.length:Int),(i:Int),())) l.length (λi=>A1 ((nA l i).fr=f)&&A1 ((nA l i).nu=n)) (λi=>(i,())) () (λi hi=>by
   unfold jG;simp only[AU hi,B9 hi,Ch,B4 hi (by omega:l.length<=9223372036854775807)];by_cases h1:(nA l i).fr=f<;>by_cases h2:(nA l i).nu=n<;>simp[h1,h2]) (by simp[jG])
 unfold HJ;simp only[h];exact Tt
def K4{l:List A6}{f n:Int}(hl:l.length<=1048576):GO (l,f,n,())=I ((Ab l f n,()),()):=by
 have h:uq (l,f,n,0,())=I (if Ab l f n<0 then .inr () else .inl (Ab l f n,())):=
  Qo (λi=>(l,f,n,(i:Int),())) l.length (λi=>A1 ((nA l i).fr=f)&&A1 ((nA l i).nu=n)) (λi=>(i,())) () (λi hi=>by
   unfold iO;simp only[AU hi,B9 hi,Ch,B4 hi (by omega:l.length<=9223372036854775807)];by_cases h1:(nA l i).fr=f<;>by_cases h2:(nA l i).nu=n<;>simp[h1,h2]) (by simp[iO])
 unfold GO;simp only[h];exact Tt
def TH{l:List Mark}{f n:Int}(hl:l.length<=1048576):LC (l,f,n,())=I ((Bt l f n,()),()):=by
 have h:vW (f,n,l,(l.length:Int),0,())=I (if Bt l f n<0 then .inr () else .inl (Bt l f n,())):=
  Qo (λi=>(f,n,l,(l.length:Int),(i:Int),())) l.length (λi=>A1 ((mA l i).mf=f)&&A1 ((mA l i).mn=n)) (λi=>(i,())) () (λi hi=>by
   unfold iv;simp only[AU hi,B9 hi,FL,B4 hi (by omega:l.length<=9223372036854775807)];by_cases h1:(mA l i).mf=f<;>by_cases h2:(mA l i).mn=n<;>simp[h1,h2]) (by simp[iv])
 unfold LC;simp only[h];exact Tt
def TC{l:List Mark}{f n:Int}(hl:l.length<=1048576):LD (l,f,n,())=I ((Bt l f n,()),()):=by
 have h:uo (l,f,n,0,())=I (if Bt l f n<0 then .inr () else .inl (Bt l f n,())):=
  Qo (λi=>(l,f,n,(i:Int),())) l.length (λi=>A1 ((mA l i).mf=f)&&A1 ((mA l i).mn=n)) (λi=>(i,())) () (λi hi=>by
   unfold iN;simp only[AU hi,B9 hi,FL,B4 hi (by omega:l.length<=9223372036854775807)];by_cases h1:(mA l i).mf=f<;>by_cases h2:(mA l i).mn=n<;>simp[h1,h2]) (by simp[iN])
 unfold LD;simp only[h];exact Tt
def Ee(id:Int)(fr tt:Int):Bool:= !decide (id=tt)&&(inB id fr tt||inB id tt fr)
def mF{id fr nu tt un:Int}{tx:A4}:Xw (id,(fr,nu,tt,un,tx,()),())=I ((Ee id fr tt,()),()):=by
 unfold Xw Ee;simp only[EW];by_cases h:id=tt<;>cases inB id fr tt<;>simp[h]
def lG{id fr nu tt un:Int}{tx:A4}:jY ((fr,nu,tt,un,tx,()),id,())=I ((Ee id fr tt,()),()):=by
 unfold jY Ee inB;by_cases h1:fr<=id
 .simp only[h1,Aa,A5];congr 3;rw[Ke];simp;omega
 .have e:(A1 (tt<id)&&A1 (id<=fr))=(!decide (id=tt)&&(A1 (fr<=id)&&A1 (id<=tt)||decide (tt<=id)&&A1 (id<=fr))):=by
   rw[Ke];simp only[AG,Br,C1,decide_eq_true_eq,decide_eq_false_iff_not];omega
  rw[← e];simp[h1]
structure De (held:List A6) (marks:List Mark) (inbox:List A6):Prop where
 hl:held.length<=1048576
 h:∀x∈held,GX x
 ml:marks.length<=1048576
 il:inbox.length<=1048576
 i:∀x∈inbox,GX x
def HP(id ti nx:Int)(held:List A6)(marks:List Mark)(i:Nat):Bool:= !(A1 ((nA held i).fr=id)&&A1 (nx<=(nA held i).nu))&&(A1 (ti<(nA held i).un)&&(Ee id (nA held i).fr (nA held i).to&&A1 (Bt marks (nA held i).fr (nA held i).nu<0)))
def JP(id ti nx:Int)(marks:List Mark)(i:Nat):Bool:=A1 (ti<(mA marks i).mu)&& !(A1 ((mA marks i).mf=id)&&A1 (nx<=(mA marks i).mn))
def It(id ti nx:Int)(marks:List Mark)(inbox:List A6)(i:Nat):Bool:=A1 ((nA inbox i).to=id)&&(!(A1 ((nA inbox i).fr=id)&&A1 (nx<=(nA inbox i).nu))&&(!decide (ti<(nA inbox i).un)||decide (0<=Bt marks (nA inbox i).fr (nA inbox i).nu)))
def Ay(k:AH):Bool:=isN k.id&&(inB k.ti 0 999&&(inB k.nx 1 100&&((A1 ((k.held.length:Int)<=6)&&DX k.held)&&((A1 ((k.marks.length:Int)<=12)&&Fe k.marks)&&((A1 ((k.inbox.length:Int)<=6)&&DX k.inbox)&&
 (As k.held.length (HP k.id k.ti k.nx k.held k.marks)&&(As k.marks.length (JP k.id k.ti k.nx k.marks)&&As k.inbox.length (It k.id k.ti k.nx k.marks k.inbox))))))))
def ark(l:List Mark)(f n:Int):Bt l f n= -1\/0<=Bt l f n:=by
 rcases GR l.length (λi=>A1 ((mA l i).mf=f)&&A1 ((mA l i).mn=n)) with⟨h,_⟩|⟨i,h,_⟩
 .exact .inl h
 .exact .inr (by unfold Bt;omega)
def tfp(p:Prop):(p=True)\/(p=False):=by
 by_cases h:p
 .exact .inl (eq_true h)
 .exact .inr<|eq_false h
def sgn(n:Int):((n<0)=True/\(0<=n)=False)\/((n<0)=False/\(0<=n)=True):=by
 by_cases h:n<0
 .exact .inl ⟨eq_true h,eq_false J⟩
 .exact .inr ⟨eq_false h,eq_true J⟩
def Ef(a b:Int):((a<=b)=True/\(b<a)=False)\/((a<=b)=False/\(b<a)=True):=by
 by_cases h:a<=b
 .exact .inl ⟨eq_true h,eq_false J⟩
 .exact .inr ⟨eq_false h,eq_true J⟩
def mw(l:List A6)(f n:Int):Ab l f n= -1\/0<=Ab l f n:=by
 rcases GR l.length (λi=>A1 ((nA l i).fr=f)&&A1 ((nA l i).nu=n)) with⟨h,_⟩|⟨i,h,_⟩
 .exact .inl h
 .exact .inr (by unfold Ab;omega)
def anX{id ti nx:Int}{held:List A6}{marks:List Mark}{inbox:List A6}(sm:De held marks inbox):
  vm ((id,ti,nx,held,marks,inbox,()),held,(held.length:Int),0,())=I (if As held.length (HP id ti nx held marks) then .inr ((id,ti,nx,held,marks,inbox,()),()) else .inl (A3,())):=
 Cs (λi=>((id,ti,nx,held,marks,inbox,()),held,(held.length:Int),(i:Int),())) held.length (HP id ti nx held marks) (A3,()) ((id,ti,nx,held,marks,inbox,()),()) (λi hi=>by
  unfold jN HP;have hl:held.length<=9223372036854775807:=by have:=sm.hl;omega
  simp only[AU hi,B9 hi,Ch,FL,TH sm.ml,mF,A9,B4 hi hl];have h4:=sgn<|Bt marks (nA held i).fr (nA held i).nu;rcases tfp ((nA held i).fr=id) with h1|h1<;>rcases tfp (nx<=(nA held i).nu) with h2|h2<;>rcases Ef (nA held i).un ti with h3|h3<;>obtain h4|h4:=h4<;>rcases tf (Ee id (nA held i).fr (nA held i).to) with h5|h5<;>simp[h1,h2,h5,h4,h3]) (by simp[jN])
def aCC{id ti nx:Int}{held:List A6}{marks:List Mark}{inbox:List A6}(sm:De held marks inbox):
  vl ((id,ti,nx,held,marks,inbox,()),marks,(marks.length:Int),0,())=I (if As marks.length (JP id ti nx marks) then .inr ((id,ti,nx,held,marks,inbox,()),()) else .inl (A3,())):=
 Cs (λi=>((id,ti,nx,held,marks,inbox,()),marks,(marks.length:Int),(i:Int),())) marks.length (JP id ti nx marks) (A3,()) ((id,ti,nx,held,marks,inbox,()),()) (λi hi=>by
  unfold jM JP;have hl:marks.length<=9223372036854775807:=by have:=sm.ml;omega
  simp only[AU hi,B9 hi,Ch,FL,TH sm.ml,mF,A9,B4 hi hl];rcases tfp ((mA marks i).mf=id) with h1|h1<;>rcases tfp (nx<=(mA marks i).mn) with h2|h2<;>rcases Ef (mA marks i).mu ti with h3|h3<;>simp[h1,h2,h3]) (by simp[jM])
def aCB{id ti nx:Int}{held:List A6}{marks:List Mark}{inbox:List A6}(sm:De held marks inbox):
  vk ((id,ti,nx,held,marks,inbox,()),inbox,(inbox.length:Int),0,())=I (if As inbox.length (It id ti nx marks inbox) then .inr () else .inl (A3,())):=
 Cs (λi=>((id,ti,nx,held,marks,inbox,()),inbox,(inbox.length:Int),(i:Int),())) inbox.length (It id ti nx marks inbox) (A3,()) () (λi hi=>by
  unfold jL It;have hl:inbox.length<=9223372036854775807:=by have:=sm.il;omega
  simp only[AU hi,B9 hi,Ch,FL,TH sm.ml,mF,A9,B4 hi hl];have h4:=sgn<|Bt marks (nA inbox i).fr (nA inbox i).nu;rcases tfp ((nA inbox i).fr=id) with h1|h1<;>rcases tfp (nx<=(nA inbox i).nu) with h2|h2<;>rcases Ef (nA inbox i).un ti with h3|h3<;>rcases tfp ((nA inbox i).to=id) with h0|h0<;>obtain h4|h4:=h4<;>simp[h1,h2,h0,h4,h3]) (by simp[jL])
def amw{id ti nx:Int}{held:List A6}{marks:List Mark}{inbox:List A6}(sm:De held marks inbox):
  vM ((id,ti,nx,held,marks,inbox,()),0,())=I (if As held.length (HP id ti nx held marks) then .inr ((id,ti,nx,held,marks,inbox,()),()) else .inl (A3,())):=
 Cs (λi=>((id,ti,nx,held,marks,inbox,()),(i:Int),())) held.length (HP id ti nx held marks) (A3,()) ((id,ti,nx,held,marks,inbox,()),()) (λi hi=>by
  unfold iV HP;have hl:held.length<=9223372036854775807:=by have:=sm.hl;omega
  simp only[AU hi,B9 hi,Ch,FL,TC sm.ml,lG,A9,B4 hi hl];have h4:=sgn<|Bt marks (nA held i).fr (nA held i).nu;rcases tfp ((nA held i).fr=id) with h1|h1<;>rcases tfp (nx<=(nA held i).nu) with h2|h2<;>rcases Ef (nA held i).un ti with h3|h3<;>obtain h4|h4:=h4<;>rcases tf (Ee id (nA held i).fr (nA held i).to) with h5|h5<;>simp[h1,h2,h5,h4,h3]) (by simp[iV])
def aB0{id ti nx:Int}{held:List A6}{marks:List Mark}{inbox:List A6}(sm:De held marks inbox):
  vL ((id,ti,nx,held,marks,inbox,()),0,())=I (if As marks.length (JP id ti nx marks) then .inr ((id,ti,nx,held,marks,inbox,()),()) else .inl (A3,())):=
 Cs (λi=>((id,ti,nx,held,marks,inbox,()),(i:Int),())) marks.length (JP id ti nx marks) (A3,()) ((id,ti,nx,held,marks,inbox,()),()) (λi hi=>by
  unfold iU JP;have hl:marks.length<=9223372036854775807:=by have:=sm.ml;omega
  simp only[AU hi,B9 hi,Ch,FL,TC sm.ml,lG,A9,B4 hi hl];rcases tfp ((mA marks i).mf=id) with h1|h1<;>rcases tfp (nx<=(mA marks i).mn) with h2|h2<;>rcases Ef (mA marks i).mu ti with h3|h3<;>simp[h1,h2,h3]) (by simp[iU])
def aAz{id ti nx:Int}{held:List A6}{marks:List Mark}{inbox:List A6}(sm:De held marks inbox):
  vK ((id,ti,nx,held,marks,inbox,()),0,())=I (if As inbox.length (It id ti nx marks inbox) then .inr () else .inl (A3,())):=
 Cs (λi=>((id,ti,nx,held,marks,inbox,()),(i:Int),())) inbox.length (It id ti nx marks inbox) (A3,()) () (λi hi=>by
  unfold iT It;have hl:inbox.length<=9223372036854775807:=by have:=sm.il;omega
  simp only[AU hi,B9 hi,Ch,FL,TC sm.ml,lG,A9,B4 hi hl];have h4:=sgn<|Bt marks (nA inbox i).fr (nA inbox i).nu;rcases tfp ((nA inbox i).fr=id) with h1|h1<;>rcases tfp (nx<=(nA inbox i).nu) with h2|h2<;>rcases Ef (nA inbox i).un ti with h3|h3<;>rcases tfp ((nA inbox i).to=id) with h0|h0<;>obtain h4|h4:=h4<;>simp[h1,h2,h0,h4,h3]) (by simp[iT])
def lA{id ti nx:Int}{held:List A6}{marks:List Mark}{inbox:List A6}(sm:De held marks inbox):Qg ((id,ti,nx,held,marks,inbox,()),())=I ((Ay ⟨id,ti,nx,held,marks,inbox⟩,()),()):=by
 unfold Qg Ay;simp only[EW,K7,aBj sm.hl sm.h,aBj sm.il sm.i,anu sm.ml,anX sm,aCC sm,aCB sm,A9];rcases tf (isN id) with h1|h1<;>simp only[h1,AF,AK,A5,AS,AY,A7];rcases tf (inB ti 0 999) with h2|h2<;>simp only[h2,AF,AK,A5,AS,AY,A7];rcases tf (inB nx 1 100) with h3|h3<;>simp only[h3,AF,AK,A5,AS,AY,A7];rcases Ef (held.length:Int) 6 with h4|h4<;>rcases Ef (marks.length:Int) 12 with h5|h5<;>rcases Ef (inbox.length:Int) 6 with h6|h6<;>simp only[h4,h5,h6,Aa,Ag,A5,AS,Bc,AY,A7];rcases tf (DX held) with h7|h7<;>rcases tf (Fe marks) with h8|h8<;>rcases tf (DX inbox) with h9|h9<;>simp only[h7,h8,h9,AF,AK,A5,AS,Bc,AY,A7];rcases tf (As held.length<|HP id ti nx held marks) with h10|h10<;>rcases tf (As marks.length<|JP id ti nx marks) with h11|h11<;>rcases tf (As inbox.length<|It id ti nx marks inbox) with h12|h12<;>simp only[h10,h11,h12,A5,CB,G8,A7,aCC sm,aCB sm]<;>rfl
def lI{id ti nx:Int}{held:List A6}{marks:List Mark}{inbox:List A6}(sm:De held marks inbox):Qd ((id,ti,nx,held,marks,inbox,()),())=I ((Ay ⟨id,ti,nx,held,marks,inbox⟩,()),()):=by
 unfold Qd Ay;simp only[IB,K9,aAZ sm.hl sm.h,aAZ sm.il sm.i,ajI sm.ml,amw sm,aB0 sm,aAz sm,A9];rcases tf (isN id) with h1|h1<;>simp only[h1,AF,AK,A5,AS,AY,A7];rcases tf (inB ti 0 999) with h2|h2<;>simp only[h2,AF,AK,A5,AS,AY,A7];rcases tf (inB nx 1 100) with h3|h3<;>simp only[h3,AF,AK,A5,AS,AY,A7];rcases tf (A1 ((held.length:Int)<=6)&&DX held) with h7|h7<;>rcases tf (A1 ((marks.length:Int)<=12)&&Fe marks) with h8|h8<;>rcases tf (A1 ((inbox.length:Int)<=6)&&DX inbox) with h9|h9<;>simp only[h7,h8,h9,AF,AK,A5,AS,Bc,AY,A7];rcases tf (As held.length<|HP id ti nx held marks) with h10|h10<;>rcases tf (As marks.length<|JP id ti nx marks) with h11|h11<;>rcases tf (As inbox.length<|It id ti nx marks inbox) with h12|h12<;>simp only[h10,h11,h12,A5,CB,G8,A7,aB0 sm,aAz sm]<;>rfl
def MM{α:Type}{l:List α}{d:α}(hl:l.length<=1048576):
  (if A1 ((l.length:Int)=0) then I ((([]:List α),()),()) else if A1 (0<=(l.length:Int))&&A1 ((l.length:Int)<=4294967296) then I (((BS (BV (AR (l.length:Int)) d).length l++Bv l.length (BV (AR (l.length:Int)) d)),()),()) else A0)=I ((l,()),()):=by
 by_cases h:(l.length:Int)=0
 .have:l=[]:=E7 J;subst this;rfl
 .have h1:(l.length:Int)<=4294967296:=J
  have h2:0<=(l.length:Int):=J
  simp[h1]
def eV{l:List A6}(hl:l.length<=1048576):OS (l,())=I ((l,()),()):=MM hl
def aeV{l:List Mark}(hl:l.length<=1048576):ug (l,())=I ((l,()),()):=MM hl
def tX{l:List A4}(hl:l.length<=1048576):SX (l,())=I ((l,()),()):=MM hl
def aAO{id ti nx:Int}{held:List A6}{marks:List Mark}{inbox:List A6}(sm:De held marks inbox):Ss ((id,ti,nx,held,marks,inbox,()),())=I (((id,ti,nx,held,marks,inbox,()),()),()):=by
 unfold Ss;simp only[eV sm.hl,aeV sm.ml,eV sm.il,A9]
def BG{n:Nat}(h:n<=4294967296):Af n=U:=by simpa[Af] using h
def aB6{id ti nx:Int}{held:List A6}{marks:List Mark}{inbox:List A6}(sm:De held marks inbox):TD ((id,ti,nx,held,marks,inbox,()),())=I (((id,ti,nx,held,marks,inbox,()),()),()):=by
 unfold TD;have h1:=sm.hl;have h2:=sm.ml;have h3:=sm.il;simp only[CN,DT,En,BG<|show held.length<=4294967296 by omega,BG<|show marks.length<=4294967296 by omega,BG<|show inbox.length<=4294967296 by omega,A5]
def ahk{id:Int}:fv (id,())=I ((if isN id then(id,0,1,[],[],[],()) else(0,0,0,[],[],[],()),()),()):=by
 unfold fv;simp only[K7,A9];cases isN id<;>rfl
def ahC{id:Int}:gR (id,())=I ((if isN id then(id,0,1,[],[],[],()) else(0,0,0,[],[],[],()),()),()):=by
 unfold gR;simp only[K9,A9];cases isN id<;>rfl
end Go.VS
end
