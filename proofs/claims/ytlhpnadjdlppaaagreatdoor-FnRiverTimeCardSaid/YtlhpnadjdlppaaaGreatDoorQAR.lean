/- Part 18. -/
import Derived.Test.YtlhpnadjdlppaaaGreatDoorQAQ
open Bool renaming and_eq_true->AI,and_false->BZ,eq_iff_iff->Og,false->A3,false_and->AN,not_eq_true'->Df,not_false->AE,not_true->AB,or_eq_true->Cj,true->A1,true_and->AW
open ByteArray renaming data_extract->YP
open Decidable renaming decide->A0
open Go.IntKind renaming wrap->WC
open Int renaming toNat->AK
open List renaming drop->Bp,eq_nil_of_length_eq_zero->E9,getD_eq_getElem?_getD->BG,length_nil->CB,mem_of_getElem?->CZ,nil_append->Ef,replicate->BX,take->BH
open Nat renaming le_refl->Ar,lt_or_ge->GO,sub_self->Ls,zero_add->DS,zero_le->Ce
open Option renaming bind_some->A9,none->U,some->I
set_option linter.all false
noncomputable section
namespace Go.VS
open Go
section
variable {σ ρ β γ:Type} {b:σ->Option (σ ⊕ ρ)}
def BT{x:σ}{y:ρ}(h:b x=I (.inr y)):AZ b x=I y:=adK (n:=1)<|by simp[Hq,h]
def B4{x x':σ}{y:ρ}(h:b x=I (.inl x'))(hy:AZ b x'=I y):AZ b x=I y:=by
 obtain⟨n,hn⟩:=wX hy;exact adK (n:=n+1)<|by simp[Hq,h,hn]
def Ca(st:Nat->σ)(n:Nat){y:ρ}(h:∀i,i<n->b (st i)=I (.inl<|st<|i+1))(hn:b (st n)=I (.inr y)):AZ b (st 0)=I y:=by
 have:∀k,k<=n->AZ b (st<|n - k)=I y:=by
  intro k
  induction k with
  | zero=>intro _;exact BT hn
  | succ k ih=>
   intro hk;refine B4 (h (n - (k+1)) J) ?_;rw[show n - (k+1)+1=n - k by omega];exact ih J
 have:=this n<|Ar _;rwa[Ls]at this
def az7(Inv:Nat->σ->Prop)(O1:ρ->Prop)(n:Nat)(gE:∀i s,i<n->Inv i s->(∃s',b s=I (.inl s')/\Inv (i+1) s')\/(∃r,b s=I (.inr r)/\O1 r))
  (kF:∀s,Inv n s->∃r,b s=I (.inr r)/\O1 r){s0:σ}(h0:Inv 0 s0):∃r,AZ b s0=I r/\O1 r:=by
 have:∀k,k<=n->∀s,Inv (n - k) s->∃r,AZ b s=I r/\O1 r:=by
  intro k
  induction k with
  | zero=>
   intro _ s hs;obtain⟨r,h1,h2⟩:=kF s hs;exact⟨r,BT h1,h2⟩
  | succ k ih=>
   intro hk s hs;rcases gE _ s J hs with⟨s',h1,h2⟩|⟨r,h1,h2⟩
   .rw[show n - (k+1)+1=n - k by omega]at h2;obtain⟨r,h3,h4⟩:=ih J s' h2;exact⟨r,B4 h1 h3,h4⟩
   .exact⟨r,BT h1,h2⟩
 exact this n (Ar _) s0<|by rwa[Ls]
end
def Gm{β:Type}(q:Nat->Option β):Nat->Nat->Option β
 | 0,_=>U
 | k+1,i=>match q i with
  | some r=>I r
  | none=>Gm q k (i+1)
section
variable {σ β γ:Type} {b:σ->Option (σ ⊕ (β ⊕ γ))}
def abA(st:Nat->σ)(n:Nat)(q:Nat->Option β)(fin:γ)
  (h:∀i,i<n->b (st i)=I (match q i with|none=> .inl (st<|i+1)|some r=> .inr<|.inl r))
  (hn:b (st n)=I (.inr<|.inr fin)):AZ b (st 0)=I (match Gm q n 0 with|none=> .inr fin|some r=> .inl r):=by
 have:∀k,k<=n->AZ b (st<|n - k)=I (match Gm q k (n - k) with|none=> .inr fin|some r=> .inl r):=by
  intro k
  induction k with
  | zero=>intro _;exact BT hn
  | succ k ih=>
   intro hk;have h1:=h (n - (k+1)) J;unfold Gm;cases hq:q (n - (k+1)) with
   | some r=>rw[hq]at h1;exact BT h1
   | none=>
    rw[hq]at h1;refine B4 h1 ?_;rw[show n - (k+1)+1=n - k by omega];exact ih J
 have:=this n<|Ar _;rwa[Ls]at this
def LX(p:Nat->Bool):Nat->Nat->Bool
 | 0,_=>A1
 | k+1,i=>p i&&LX p k (i+1)
def BJ(n:Nat)(p:Nat->Bool):Bool:=LX p n 0
def vN{p:Nat->Bool}{r:β}:∀(k i:Nat),Gm (λi=>if p i then U else I r) k i=if LX p k i then U else I r
 | 0,_=>rfl
 | k+1,i=>by
  unfold Gm LX;cases hp:p i
  .simp
  .simpa using vN k<|i+1
def Dp(st:Nat->σ)(n:Nat)(p:Nat->Bool)(r:β)(fin:γ)
  (h:∀i,i<n->b (st i)=I (if p i then .inl (st<|i+1) else .inr (.inl r)))
  (hn:b (st n)=I (.inr<|.inr fin)):AZ b (st 0)=I (if BJ n p then .inr fin else .inl r):=by
 rw[abA st n (λi=>if p i then U else I r) fin (λi hi=>by rw[h i hi];cases p i<;>rfl) hn,vN,BJ];cases LX p n 0<;>rfl
def FL(n:Nat)(p:Nat->Bool):Int:=(Gm (λi=>if p i then I (i:Int) else U) n 0).getD (-1)
def tM{p:Nat->Bool}{f:Int->β}:∀(k i:Nat),Gm (λi=>if p i then I (f (i:Int)) else U) k i=(Gm (λi=>if p i then I (i:Int) else U) k i).map f
 | 0,_=>rfl
 | k+1,i=>by
  unfold Gm;cases hp:p i
  .simpa using tM k (i+1)
  .simp
def iA{q:Nat->Option β}{r:β}:∀(k i:Nat),Gm q k i=I r->∃j,i<=j/\j<i+k/\q j=I r/\ ∀l,i<=l->l<j->q l=U
 | 0,_,h=>by cases h
 | k+1,i,h=>by
  unfold Gm at h;split at h
  .rename_i r' hr;cases h;exact⟨i,Ar _,J,hr,λl h1 h2=>by omega⟩
  .rename_i hr;obtain⟨j,h1,h2,h3,h4⟩:=iA k (i+1) h;exact⟨j,J,J,h3,λl h5 h6=>by
    rcases GO i l with h7|h7
    .exact h4 l h7 h6
    .rw[show l=i by omega];exact hr⟩
def aAq{q:Nat->Option β}:∀(k i:Nat),Gm q k i=U->∀l,i<=l->l<i+k->q l=U
 | 0,_,_,l,h1,h2=>J
 | k+1,i,h,l,h1,h2=>by
  unfold Gm at h;split at h
  .cases h
  .rename_i hr;rcases GO i l with h7|h7
   .exact aAq k (i+1) h l h7 J
   .rw[show l=i by omega];exact hr
def Gw(n:Nat)(p:Nat->Bool):(FL n p= -1/\ ∀i,i<n->p i=A3)\/ ∃i:Nat,FL n p=i/\i<n/\p i=A1/\ ∀l,l<i->p l=A3:=by
 unfold FL;cases h:Gm (λi=>if p i then I (i:Int) else U) n 0 with
 | none=>
  refine .inl ⟨rfl,λi hi=> ?_⟩;have:=aAq n 0 h i (Ce _) J;cases hp:p i<;>simp[hp]at this ⊢
 | some r=>
  obtain⟨j,h1,h2,h3,h4⟩:=iA n 0 h;refine .inr ⟨j, ?_,J, ?_,λl hl=> ?_⟩
  .cases hp:p j<;>simp[hp]at h3;simp[h3]
  .cases hp:p j<;>simp[hp]at h3 ⊢
  .have:=h4 l (Ce _) hl;cases hp:p l<;>simp[hp]at this ⊢
def OZ(st:Nat->σ)(n:Nat)(p:Nat->Bool)(f:Int->β)(fin:γ)
  (h:∀i,i<n->b (st i)=I (if p i then .inr (.inl<|f (i:Int)) else .inl (st<|i+1)))
  (hn:b (st n)=I (.inr<|.inr fin)):AZ b (st 0)=I (if FL n p<0 then .inr fin else .inl (f<|FL n p)):=by
 rw[abA st n (λi=>if p i then I (f (i:Int)) else U) fin (λi hi=>by rw[h i hi];cases p i<;>rfl) hn,tM];rcases Gw n p with⟨h1,_⟩|⟨i,h1,_⟩
 .rw[h1];unfold FL at h1;cases h2:Gm (λi=>if p i then I (i:Int) else U) n 0 with
  | none=>simp
  | some r=>
   obtain⟨j,_,_,h3,_⟩:=iA n 0 h2;cases hp:p j<;>simp[hp]at h3;rw[h2]at h1;simp at h1;omega
 .rw[h1];unfold FL at h1;cases h2:Gm (λi=>if p i then I (i:Int) else U) n 0 with
  | none=>rw[h2]at h1;simp at h1
  | some r=>
   rw[h2]at h1;simp at h1;subst h1;simp
end
def adi{p:Nat->Bool}:∀(k i:Nat),LX p k i=A1↔ ∀j,i<=j->j<i+k->p j=A1
 | 0,_=>by simp only[LX,true_iff];intro j h1 h2;omega
 | k+1,i=>by
  unfold LX;rw[AI,adi k<|i+1];constructor
  .rintro⟨h1,h2⟩ j h3 h4;rcases GO i j with h7|h7
   .exact h2 j h7 J
   .rw[show j=i by omega];exact h1
  .intro h;exact⟨h i (Ar _) J,λj h1 h2=>h j J J⟩
def Dq{n:Nat}{p:Nat->Bool}:BJ n p=A1↔ ∀i,i<n->p i=A1:=by
 unfold BJ;rw[adi];exact⟨λh i hi=>h i (Ce _) J,λh j _ h2=>h j J⟩
def De{A D Ω:Type}{f:A->Option Ω}{g:D->Option Ω}{y:D}:AS (I<|.inr y) f g=g y:=rfl
def JP{A D Ω:Type}{f:A->Option Ω}{g:D->Option Ω}{y:A}:AS (I<|.inl y) f g=f y:=rfl
def Bg{X Ω:Type}{f:X->Option Ω}{y:X}:B8 f (I<|.inr y)=f y:=rfl
def O8{X Ω:Type}{f:X->Option Ω}{y:Ω}:B8 f (I<|.inl y)=I y:=rfl
def AY{n:Int}(h0: -9223372036854775808<=n)(h1:n<=9223372036854775807):w64 n=n:=by
 unfold w64;rw[IntKind.wrap_i64];omega
def N9(n:Int):w8 n=n % 256:=by
 unfold w8 WC;simp[IntKind.signed,IntKind.bits]
def BL{i n:Nat}(h:i<n)(hn:n<=9223372036854775807):w64 ((i:Int)+1)=((i+1:Nat):Int):=by
 rw[AY J J];omega
def Oz{α:Type}(d:α)(xs:List α)(i:Nat):rd d xs (i:Int)=xs.getD i d:=rfl
def ahJ(i n:Nat):inb (i:Int) n=A0 (i<n):=by
 unfold inb;by_cases h:i<n
 .simp[h]
 .simp[h]
def AX{i n:Nat}(h:i<n):inb (i:Int) n=A1:=by rw[ahJ];simpa using h
abbrev L(s:A4):List UInt8:=s.data.toList
def Av(s:A4):(L s).length=s.size:=rfl
def F9{s t:A4}(h:L s=L t):s=t:=by
 cases s;cases t;simp[L]at h;exact congrArg _ h
def Fp(s t:A4):L (s++t)=L s++L t:=by simp[L,ByteArray.data_append]
def Ds(s:A4)(a b:Nat):L (s.extract a b)=((L s).drop a).take (b - a):=by
 simp[L,YP,Array.toList_extract,List.extract_eq_take_drop]
def Bb(s t:A4):(s++t).size=s.size+t.size:=ByteArray.size_append ..
def L_B(l:List UInt8):L (B l)=l:=rfl
def BK(l:List UInt8):(B l).size=l.length:=rfl
def oY(l:List UInt8):L ⟨l.toArray⟩=l:=rfl
def KV(s:A4)(i:Nat):bt s (i:Int)=(((L s).getD i 0).toNat:Int):=rfl
def alr(s:A4)(i:Int):0<=bt s i:=by unfold bt;omega
def auX(s:A4)(i:Int):bt s i<=255:=by
 unfold bt;have:=(s.data.toList.getD i.toNat 0).toNat_lt;omega
end Go.VS
namespace Go.VS
open Go
def ari(m:AQ):Prop:=m.da.size<=1048576
def NM(h:AG):Prop:=h.got.length<=1048576/\ ∀m∈h.got,ari m
def EL(k:AA):Prop:=k.log.size<=1048576/\k.AM.length<=1048576/\ ∀h∈k.AM,NM h
def jb(p:AR):Prop:=p.data.size<=1048576
def Fj(n:A7):Prop:=n.tx.size<=1048576
def PA{α:Type}{l:List α}{i:Nat}{x d:α}(h:l[i]? =I x):l.getD i d=x:=by simp[h]
def BS{i n:Nat}(h:i<n):A0 ((i:Int)<(n:Int))=A1:=by simpa using h
structure PQ (ks:List AA) (ls:List Bool) (ra:List AR) (se go:List A7):Prop where
 kl:ks.length<=1048576
 k:∀x∈ks,EL x
 l:ls.length<=1048576
 rl:ra.length<=1048576
 r:∀x∈ra,jb x
 sl:se.length<=1048576
 s:∀x∈se,Fj x
 gl:go.length<=1048576
 g:∀x∈go,Fj x
@[simp] theorem HF (q:Bool):Ah A3 q=A1:=by cases q<;>rfl
@[simp] theorem II (q:Bool):Ah A1 q=q:=by cases q<;>rfl
def tf(b:Bool):b=A1\/b=A3:=by cases b<;>simp
def inB(n lo hi:Int):Bool:=A0 (lo<=n)&&A0 (n<=hi)
def Ae{n lo hi:Int}:inB n lo hi=A1↔lo<=n/\n<=hi:=by simp[inB]
abbrev isN(n:Int):Bool:=inB n 0 3
@[simp] theorem ED {n lo hi:Int} :By (n,lo,hi,())=I ((inB n lo hi,()),()):=rfl
@[simp] theorem HZ {n lo hi:Int} :Cv (n,lo,hi,())=I ((inB n lo hi,()),()):=rfl
@[simp] theorem KI {n:Int} :FT (n,())=I ((isN n,()),()):=rfl
@[simp] theorem JA {n:Int} :FC (n,())=I ((isN n,()),()):=rfl
abbrev tin(s:A4):Bool:=BJ s.size λi=>inB (bt s i) 32 126
def Lx(s:A4):Bool:=inB s.size 1 24&&tin s
def aan{s:A4}{i:Int}:w64 (bt s i)=bt s i:=AY (by have:=alr s i;omega) (by have:=auX s i;omega)
@[simp] theorem aom {s:A4} (hs:s.size<=1048576):NS (s,())=I ((Lx s,()),()):=by
 have h:jx (s,0,())=I (if tin s then .inr (s,()) else .inl (A3,())):=
  Dp (λi=>(s,(i:Int),())) s.size (λi=>inB (bt s i) 32 126) (A3,()) (s,()) (λi hi=>by
   unfold Vu;simp only[AX hi,BS hi,aan,ED,A9,BL hi (by omega:s.size<=9223372036854775807)];cases inB (bt s i) 32 126<;>rfl) (by simp[Vu])
 unfold NS;simp only[h];unfold Lx;cases tin s<;>simp[AS]
def B9(n:A7):Bool:=isN n.fr&&(isN n.to&&(inB n.nu 1 99&&(inB n.un 1 999&&Lx n.tx)))
@[simp] theorem SJ {fr nu tt un:Int} {tx:A4} (hs:tx.size<=1048576):Nc ((fr,nu,tt,un,tx,()),())=I ((B9 ⟨fr,nu,tt,un,tx⟩,()),()):=by
 unfold Nc B9;simp only[aom hs,ED,KI,A9];cases isN fr<;>cases isN tt<;>cases inB nu 1 99<;>cases inB un 1 999<;>simp[Ah]
@[simp] theorem Sc {fr nu tt un:Int} {tx:A4} (hs:tx.size<=1048576):O3 ((fr,nu,tt,un,tx,()),())=I ((B9 ⟨fr,nu,tt,un,tx⟩,()),()):=by
 have h:oF ((fr,nu,tt,un,tx,()),0,())=I (if tin tx then .inr () else .inl (A3,())):=
  Dp (λi=>((fr,nu,tt,un,tx,()),(i:Int),())) tx.size (λi=>inB (bt tx i) 32 126) (A3,()) () (λi hi=>by
   unfold XF;simp only[AX hi,BS hi,BL hi (by omega:tx.size<=9223372036854775807)];unfold inB;by_cases h1:bt tx i<32<;>by_cases h2:126<bt tx i<;>simp[h1,h2,Ah]<;>omega) (by simp[XF])
 unfold O3 B9;simp only[h,HZ,JA,A9];unfold Lx;by_cases h1:(tx.size:Int)<1<;>by_cases h2:(24:Int)<tx.size<;>cases isN fr<;>cases isN tt<;>cases inB nu 1 99<;>cases inB un 1 999<;>cases tin tx<;>simp[h1,h2,AS,inB]<;>omega
def G1(m:Mark):Bool:=isN m.mf&&(inB m.mn 1 99&&inB m.mu 1 999)
@[simp] theorem at3 {a b c:Int} :aA ((a,b,c,()),())=I ((G1 ⟨a,b,c⟩,()),()):=by
 unfold aA G1;simp only[ED,KI,A9];cases isN a<;>cases inB b 1 99<;>simp[Ah]
def bef(a b c d:Int):Bool:=A0 (a<c)||(A0 (a=c)&&A0 (b<d))
@[simp] theorem Qg {a b c d:Int} :LR (a,b,c,d,())=I ((bef a b c d,()),()):=rfl
@[simp] theorem W6 {a b c d:Int} :Mq (a,b,c,d,())=I ((bef a b c d,()),()):=rfl
def nA(l:List A7)(i:Nat):A7:=l.getD i<|dfl .note
def mA(l:List Mark)(i:Nat):Mark:=l.getD i<|dfl .mark
def Dd(l:List A7)(i:Nat): @rd A7 (dfl .note) l (i:Int)=nA l i:=rfl
def Eu(l:List Mark)(i:Nat): @rd Mark (dfl .mark) l (i:Int)=mA l i:=rfl
def F3(l:List A7):Bool:=BJ l.length λi=>B9 (nA l i)&&(A0 (i=0)||bef (nA l<|i - 1).fr (nA l<|i - 1).nu (nA l i).fr (nA l i).nu)
def Hi(l:List Mark):Bool:=BJ l.length λi=>G1 (mA l i)&&(A0 (i=0)||bef (mA l<|i - 1).mf (mA l<|i - 1).mn (mA l i).mf (mA l i).mn)
def SK{l:List A7}(h:∀x∈l,Fj x)(i:Nat):(nA l i).tx.size<=1048576:=by
 unfold nA;cases hx:l[i]? with
 | none=>simp[hx,dfl];decide
 | some x=>
  have h1:x.tx.size<=1048576:=h x<|CZ hx;rw[BG,hx];exact h1
def Wg{i n:Nat}(h:i<n)(hn:n<=9223372036854775807):w64 ((i:Int) - 1)=(i:Int) - 1:=AY J J
def yG{l:List A7}(hl:l.length<=1048576)(h:∀x∈l,Fj x):Un (l,())=I ((F3 l,()),()):=by
 have h:iB (l,l,(l.length:Int),0,())=I (if F3 l then .inr () else .inl (A3,())):=
  Dp (λi=>(l,l,(l.length:Int),(i:Int),())) l.length (λi=>B9 (nA l i)&&(A0 (i=0)||bef (nA l<|i - 1).fr (nA l<|i - 1).nu (nA l i).fr (nA l i).nu)) (A3,()) () (λi hi=>by
   unfold WK;simp only[AX hi,BS hi,Dd,SJ<|SK h i,A9,Qg,BL hi (by omega:l.length<=9223372036854775807)];cases i with
   | zero=>rcases tf (B9<|nA l 0) with h1|h1<;>simp only[h1]<;>simp
   | succ j=>
    rw[Wg hi J,show((j+1:Nat):Int) - 1=(j:Int) by omega,AX<|show j<l.length by omega];simp only[Dd];rcases tf (B9<|nA l<|j+1) with h1|h1<;>rcases tf (bef (nA l j).fr (nA l j).nu (nA l<|j+1).fr (nA l<|j+1).nu) with h2|h2<;>simp only[h1,h2]<;>simp[h2]) (by simp[WK])
 unfold Un;simp only[h];cases F3 l<;>simp[AS]
def uu{l:List A7}{DC:Int}(hl:l.length<=1048576)(h:∀x∈l,Fj x):UK (l,DC,())=I ((A0 ((l.length:Int)<=DC)&&F3 l,()),()):=by
 have h:mX (l,0,())=I (if F3 l then .inr () else .inl (A3,())):=
  Dp (λi=>(l,(i:Int),())) l.length (λi=>B9 (nA l i)&&(A0 (i=0)||bef (nA l<|i - 1).fr (nA l<|i - 1).nu (nA l i).fr (nA l i).nu)) (A3,()) () (λi hi=>by
   unfold ae;simp only[AX hi,BS hi,Dd,Sc<|SK h i,A9,W6,BL hi (by omega:l.length<=9223372036854775807)];cases i with
   | zero=>rcases tf (B9<|nA l 0) with h1|h1<;>simp only[h1]<;>simp
   | succ j=>
    rw[Wg hi J,show((j+1:Nat):Int) - 1=(j:Int) by omega,AX<|show j<l.length by omega];simp only[Dd];rcases tf (B9<|nA l<|j+1) with h1|h1<;>rcases tf (bef (nA l j).fr (nA l j).nu (nA l<|j+1).fr (nA l<|j+1).nu) with h2|h2<;>simp only[h1,h2]<;>simp[h2]) (by simp[ae])
 unfold UK;simp only[h];by_cases hm:(l.length:Int)<=DC
 .rw[show A0 (DC<(l.length:Int))=A3 by simpa using hm];cases F3 l<;>simp[AS,hm]
 .rw[show A0 (DC<(l.length:Int))=A1 by simpa using hm];simp[hm]
def ah4{l:List Mark}(hl:l.length<=1048576):Xq (l,())=I ((Hi l,()),()):=by
 have h:p7 (l,l,(l.length:Int),0,())=I (if Hi l then .inr () else .inl (A3,())):=
  Dp (λi=>(l,l,(l.length:Int),(i:Int),())) l.length (λi=>G1 (mA l i)&&(A0 (i=0)||bef (mA l<|i - 1).mf (mA l<|i - 1).mn (mA l i).mf (mA l i).mn)) (A3,()) () (λi hi=>by
   unfold X9;simp only[AX hi,BS hi,Eu,at3,A9,Qg,BL hi (by omega:l.length<=9223372036854775807)];cases i with
   | zero=>rcases tf (G1<|mA l 0) with h1|h1<;>simp only[h1]<;>simp
   | succ j=>
    rw[Wg hi J,show((j+1:Nat):Int) - 1=(j:Int) by omega,AX<|show j<l.length by omega];simp only[Eu];rcases tf (G1<|mA l<|j+1) with h1|h1<;>rcases tf (bef (mA l j).mf (mA l j).mn (mA l<|j+1).mf (mA l<|j+1).mn) with h2|h2<;>simp only[h1,h2]<;>simp[h2]) (by simp[X9])
 unfold Xq;simp only[h];cases Hi l<;>simp[AS]
def as3{l:List Mark}(hl:l.length<=1048576):bO (l,())=I ((A0 ((l.length:Int)<=12)&&Hi l,()),()):=by
 have h:mE (l,0,())=I (if Hi l then .inr () else .inl (A3,())):=
  Dp (λi=>(l,(i:Int),())) l.length (λi=>G1 (mA l i)&&(A0 (i=0)||bef (mA l<|i - 1).mf (mA l<|i - 1).mn (mA l i).mf (mA l i).mn)) (A3,()) () (λi hi=>by
   unfold WB G1;simp only[AX hi,BS hi,Eu,HZ,JA,A9,W6,BL hi (by omega:l.length<=9223372036854775807)];cases i with
   | zero=>rcases tf (isN (mA l 0).mf) with h1|h1<;>rcases tf (inB (mA l 0).mn 1 99) with h2|h2<;>rcases tf (inB (mA l 0).mu 1 999) with h3|h3<;>simp only[h1,h2,h3]<;>simp
   | succ j=>
    rw[Wg hi J,show((j+1:Nat):Int) - 1=(j:Int) by omega,AX<|show j<l.length by omega];simp only[Eu];rcases tf (isN (mA l<|j+1).mf) with h1|h1<;>rcases tf (inB (mA l<|j+1).mn 1 99) with h2|h2<;>rcases tf (inB (mA l<|j+1).mu 1 999) with h3|h3<;>rcases tf (bef (mA l j).mf (mA l j).mn (mA l<|j+1).mf (mA l<|j+1).mn) with h4|h4<;>simp only[h1,h2,h3]<;>simp[h4]<;>omega) (by simp[WB])
 unfold bO;simp only[h];by_cases hm:(l.length:Int)<=12
 .rw[show A0 ((12:Int)<(l.length:Int))=A3 by simpa using hm];cases Hi l<;>simp[AS,hm]
 .rw[show A0 ((12:Int)<(l.length:Int))=A1 by simpa using hm];simp[hm]
def Aa(l:List A7)(f n:Int):Int:=FL l.length λi=>A0 ((nA l i).fr=f)&&A0 ((nA l i).nu=n)
def Cf(l:List Mark)(f n:Int):Int:=FL l.length λi=>A0 ((mA l i).mf=f)&&A0 ((mA l i).mn=n)
def TR{n:Nat}{p:Nat->Bool}:AS (I<|if FL n p<0 then(.inr ():(Int×A2) ⊕ A2) else .inl (FL n p,())) (λy=>I ((y.1,()),())) (λ_=>I ((-1,()),()))=I ((FL n p,()),()):=by
 rcases Gw n p with⟨h,_⟩|⟨i,h,_⟩
 .rw[h];rfl
 .rw[AD J];rfl
def L9{l:List A7}{f n:Int}(hl:l.length<=1048576):I8 (l,f,n,())=I ((Aa l f n,()),()):=by
 have h:mq (f,n,l,(l.length:Int),0,())=I (if Aa l f n<0 then .inr () else .inl (Aa l f n,())):=
  OZ (λi=>(f,n,l,(l.length:Int),(i:Int),())) l.length (λi=>A0 ((nA l i).fr=f)&&A0 ((nA l i).nu=n)) (λi=>(i,())) () (λi hi=>by
   unfold XD;simp only[AX hi,BS hi,Dd,BL hi (by omega:l.length<=9223372036854775807)];by_cases h1:(nA l i).fr=f<;>by_cases h2:(nA l i).nu=n<;>simp[h1,h2]) (by simp[XD])
 unfold I8;simp only[h];exact TR
def J4{l:List A7}{f n:Int}(hl:l.length<=1048576):FY (l,f,n,())=I ((Aa l f n,()),()):=by
 have h:fh (l,f,n,0,())=I (if Aa l f n<0 then .inr () else .inl (Aa l f n,())):=
  OZ (λi=>(l,f,n,(i:Int),())) l.length (λi=>A0 ((nA l i).fr=f)&&A0 ((nA l i).nu=n)) (λi=>(i,())) () (λi hi=>by
   unfold aj;simp only[AX hi,BS hi,Dd,BL hi (by omega:l.length<=9223372036854775807)];by_cases h1:(nA l i).fr=f<;>by_cases h2:(nA l i).nu=n<;>simp[h1,h2]) (by simp[aj])
 unfold FY;simp only[h];exact TR
def RO{l:List Mark}{f n:Int}(hl:l.length<=1048576):Jg (l,f,n,())=I ((Cf l f n,()),()):=by
 have h:jy (f,n,l,(l.length:Int),0,())=I (if Cf l f n<0 then .inr () else .inl (Cf l f n,())):=
  OZ (λi=>(f,n,l,(l.length:Int),(i:Int),())) l.length (λi=>A0 ((mA l i).mf=f)&&A0 ((mA l i).mn=n)) (λi=>(i,())) () (λi hi=>by
   unfold YL;simp only[AX hi,BS hi,Eu,BL hi (by omega:l.length<=9223372036854775807)];by_cases h1:(mA l i).mf=f<;>by_cases h2:(mA l i).mn=n<;>simp[h1,h2]) (by simp[YL])
 unfold Jg;simp only[h];exact TR
def Pt{l:List Mark}{f n:Int}(hl:l.length<=1048576):Jc (l,f,n,())=I ((Cf l f n,()),()):=by
 have h:pg (l,f,n,0,())=I (if Cf l f n<0 then .inr () else .inl (Cf l f n,())):=
  OZ (λi=>(l,f,n,(i:Int),())) l.length (λi=>A0 ((mA l i).mf=f)&&A0 ((mA l i).mn=n)) (λi=>(i,())) () (λi hi=>by
   unfold aJ;simp only[AX hi,BS hi,Eu,BL hi (by omega:l.length<=9223372036854775807)];by_cases h1:(mA l i).mf=f<;>by_cases h2:(mA l i).mn=n<;>simp[h1,h2]) (by simp[aJ])
 unfold Jc;simp only[h];exact TR
def Mu(id:Int)(fr tt:Int):Bool:= !decide (id=tt)&&(inB id fr tt||inB id tt fr)
def lp{id fr nu tt un:Int}{tx:A4}:VK (id,(fr,nu,tt,un,tx,()),())=I ((Mu id fr tt,()),()):=by
 unfold VK Mu;simp only[ED];by_cases h:id=tt<;>cases inB id fr tt<;>simp[h]
def lC{id fr nu tt un:Int}{tx:A4}:cg ((fr,nu,tt,un,tx,()),id,())=I ((Mu id fr tt,()),()):=by
 unfold cg Mu inB;by_cases h1:fr<=id
 .simp only[h1,AO,A5];congr 3;rw[Og];simp;omega
 .have e:(A0 (tt<id)&&A0 (id<=fr))=(!decide (id=tt)&&(A0 (fr<=id)&&A0 (id<=tt)||decide (tt<=id)&&A0 (id<=fr))):=by
   rw[Og];simp only[AI,Cj,Df,decide_eq_true_eq,decide_eq_false_iff_not];omega
  rw[← e];simp[h1]
structure DM (held:List A7) (marks:List Mark) (inbox:List A7):Prop where
 hl:held.length<=1048576
 h:∀x∈held,Fj x
 ml:marks.length<=1048576
 il:inbox.length<=1048576
 i:∀x∈inbox,Fj x
def IX(id ti nx:Int)(held:List A7)(marks:List Mark)(i:Nat):Bool:= !(A0 ((nA held i).fr=id)&&A0 (nx<=(nA held i).nu))&&(A0 (ti<(nA held i).un)&&(Mu id (nA held i).fr (nA held i).to&&A0 (Cf marks (nA held i).fr (nA held i).nu<0)))
def Jj(id ti nx:Int)(marks:List Mark)(i:Nat):Bool:=A0 (ti<(mA marks i).mu)&& !(A0 ((mA marks i).mf=id)&&A0 (nx<=(mA marks i).mn))
def KS(id ti nx:Int)(marks:List Mark)(inbox:List A7)(i:Nat):Bool:=A0 ((nA inbox i).to=id)&&(!(A0 ((nA inbox i).fr=id)&&A0 (nx<=(nA inbox i).nu))&&(!decide (ti<(nA inbox i).un)||decide (0<=Cf marks (nA inbox i).fr (nA inbox i).nu)))
def BI(k:AU):Bool:=isN k.id&&(inB k.ti 0 999&&(inB k.nx 1 100&&((A0 ((k.held.length:Int)<=6)&&F3 k.held)&&((A0 ((k.marks.length:Int)<=12)&&Hi k.marks)&&((A0 ((k.inbox.length:Int)<=6)&&F3 k.inbox)&&
 (BJ k.held.length (IX k.id k.ti k.nx k.held k.marks)&&(BJ k.marks.length (Jj k.id k.ti k.nx k.marks)&&BJ k.inbox.length (KS k.id k.ti k.nx k.marks k.inbox))))))))
def tfp(p:Prop):(p=True)\/(p=False):=by
 by_cases h:p
 .exact .inl (eq_true h)
 .exact .inr<|eq_false h
def sgn(n:Int):((n<0)=True/\(0<=n)=False)\/((n<0)=False/\(0<=n)=True):=by
 by_cases h:n<0
 .exact .inl ⟨eq_true h,eq_false J⟩
 .exact .inr ⟨eq_false h,eq_true J⟩
def EK(a b:Int):((a<=b)=True/\(b<a)=False)\/((a<=b)=False/\(b<a)=True):=by
 by_cases h:a<=b
 .exact .inl ⟨eq_true h,eq_false J⟩
 .exact .inr ⟨eq_false h,eq_true J⟩
def at5(l:List A7)(f n:Int):Aa l f n= -1\/0<=Aa l f n:=by
 rcases Gw l.length (λi=>A0 ((nA l i).fr=f)&&A0 ((nA l i).nu=n)) with⟨h,_⟩|⟨i,h,_⟩
 .exact .inl h
 .exact .inr (by unfold Aa;omega)
def azB{id ti nx:Int}{held:List A7}{marks:List Mark}{inbox:List A7}(sm:DM held marks inbox):
  mh ((id,ti,nx,held,marks,inbox,()),held,(held.length:Int),0,())=I (if BJ held.length (IX id ti nx held marks) then .inr ((id,ti,nx,held,marks,inbox,()),()) else .inl (A3,())):=
 Dp (λi=>((id,ti,nx,held,marks,inbox,()),held,(held.length:Int),(i:Int),())) held.length (IX id ti nx held marks) (A3,()) ((id,ti,nx,held,marks,inbox,()),()) (λi hi=>by
  unfold aT IX;have hl:held.length<=9223372036854775807:=by have:=sm.hl;omega
  simp only[AX hi,BS hi,Dd,Eu,RO sm.ml,lp,A9,BL hi hl];have h4:=sgn<|Cf marks (nA held i).fr (nA held i).nu;rcases tfp ((nA held i).fr=id) with h1|h1<;>rcases tfp (nx<=(nA held i).nu) with h2|h2<;>rcases EK (nA held i).un ti with h3|h3<;>obtain h4|h4:=h4<;>rcases tf (Mu id (nA held i).fr (nA held i).to) with h5|h5<;>simp[h1,h2,h5,h4,h3]) (by simp[aT])
def aaw{id ti nx:Int}{held:List A7}{marks:List Mark}{inbox:List A7}(sm:DM held marks inbox):
  nX ((id,ti,nx,held,marks,inbox,()),marks,(marks.length:Int),0,())=I (if BJ marks.length (Jj id ti nx marks) then .inr ((id,ti,nx,held,marks,inbox,()),()) else .inl (A3,())):=
 Dp (λi=>((id,ti,nx,held,marks,inbox,()),marks,(marks.length:Int),(i:Int),())) marks.length (Jj id ti nx marks) (A3,()) ((id,ti,nx,held,marks,inbox,()),()) (λi hi=>by
  unfold dh Jj;have hl:marks.length<=9223372036854775807:=by have:=sm.ml;omega
  simp only[AX hi,BS hi,Dd,Eu,RO sm.ml,lp,A9,BL hi hl];rcases tfp ((mA marks i).mf=id) with h1|h1<;>rcases tfp (nx<=(mA marks i).mn) with h2|h2<;>rcases EK (mA marks i).mu ti with h3|h3<;>simp[h1,h2,h3]) (by simp[dh])
def abY{id ti nx:Int}{held:List A7}{marks:List Mark}{inbox:List A7}(sm:DM held marks inbox):
  mR ((id,ti,nx,held,marks,inbox,()),inbox,(inbox.length:Int),0,())=I (if BJ inbox.length (KS id ti nx marks inbox) then .inr () else .inl (A3,())):=
 Dp (λi=>((id,ti,nx,held,marks,inbox,()),inbox,(inbox.length:Int),(i:Int),())) inbox.length (KS id ti nx marks inbox) (A3,()) () (λi hi=>by
  unfold YW KS;have hl:inbox.length<=9223372036854775807:=by have:=sm.il;omega
  simp only[AX hi,BS hi,Dd,Eu,RO sm.ml,lp,A9,BL hi hl];have h4:=sgn<|Cf marks (nA inbox i).fr (nA inbox i).nu;rcases tfp ((nA inbox i).fr=id) with h1|h1<;>rcases tfp (nx<=(nA inbox i).nu) with h2|h2<;>rcases EK (nA inbox i).un ti with h3|h3<;>rcases tfp ((nA inbox i).to=id) with h0|h0<;>obtain h4|h4:=h4<;>simp[h1,h2,h0,h4,h3]) (by simp[YW])
def aso{id ti nx:Int}{held:List A7}{marks:List Mark}{inbox:List A7}(sm:DM held marks inbox):
  mI ((id,ti,nx,held,marks,inbox,()),0,())=I (if BJ held.length (IX id ti nx held marks) then .inr ((id,ti,nx,held,marks,inbox,()),()) else .inl (A3,())):=
 Dp (λi=>((id,ti,nx,held,marks,inbox,()),(i:Int),())) held.length (IX id ti nx held marks) (A3,()) ((id,ti,nx,held,marks,inbox,()),()) (λi hi=>by
  unfold dD IX;have hl:held.length<=9223372036854775807:=by have:=sm.hl;omega
  simp only[AX hi,BS hi,Dd,Eu,Pt sm.ml,lC,A9,BL hi hl];have h4:=sgn<|Cf marks (nA held i).fr (nA held i).nu;rcases tfp ((nA held i).fr=id) with h1|h1<;>rcases tfp (nx<=(nA held i).nu) with h2|h2<;>rcases EK (nA held i).un ti with h3|h3<;>obtain h4|h4:=h4<;>rcases tf (Mu id (nA held i).fr (nA held i).to) with h5|h5<;>simp[h1,h2,h5,h4,h3]) (by simp[dD])
def aau{id ti nx:Int}{held:List A7}{marks:List Mark}{inbox:List A7}(sm:DM held marks inbox):
  mz ((id,ti,nx,held,marks,inbox,()),0,())=I (if BJ marks.length (Jj id ti nx marks) then .inr ((id,ti,nx,held,marks,inbox,()),()) else .inl (A3,())):=
 Dp (λi=>((id,ti,nx,held,marks,inbox,()),(i:Int),())) marks.length (Jj id ti nx marks) (A3,()) ((id,ti,nx,held,marks,inbox,()),()) (λi hi=>by
  unfold ZA Jj;have hl:marks.length<=9223372036854775807:=by have:=sm.ml;omega
  simp only[AX hi,BS hi,Dd,Eu,Pt sm.ml,lC,A9,BL hi hl];rcases tfp ((mA marks i).mf=id) with h1|h1<;>rcases tfp (nx<=(mA marks i).mn) with h2|h2<;>rcases EK (mA marks i).mu ti with h3|h3<;>simp[h1,h2,h3]) (by simp[ZA])
def aAh{id ti nx:Int}{held:List A7}{marks:List Mark}{inbox:List A7}(sm:DM held marks inbox):
  iW ((id,ti,nx,held,marks,inbox,()),0,())=I (if BJ inbox.length (KS id ti nx marks inbox) then .inr () else .inl (A3,())):=
 Dp (λi=>((id,ti,nx,held,marks,inbox,()),(i:Int),())) inbox.length (KS id ti nx marks inbox) (A3,()) () (λi hi=>by
  unfold Yk KS;have hl:inbox.length<=9223372036854775807:=by have:=sm.il;omega
  simp only[AX hi,BS hi,Dd,Eu,Pt sm.ml,lC,A9,BL hi hl];have h4:=sgn<|Cf marks (nA inbox i).fr (nA inbox i).nu;rcases tfp ((nA inbox i).fr=id) with h1|h1<;>rcases tfp (nx<=(nA inbox i).nu) with h2|h2<;>rcases EK (nA inbox i).un ti with h3|h3<;>rcases tfp ((nA inbox i).to=id) with h0|h0<;>obtain h4|h4:=h4<;>simp[h1,h2,h0,h4,h3]) (by simp[Yk])
def oE{id ti nx:Int}{held:List A7}{marks:List Mark}{inbox:List A7}(sm:DM held marks inbox):P0 ((id,ti,nx,held,marks,inbox,()),())=I ((BI ⟨id,ti,nx,held,marks,inbox⟩,()),()):=by
 unfold P0 BI;simp only[ED,KI,yG sm.hl sm.h,yG sm.il sm.i,ah4 sm.ml,azB sm,aaw sm,abY sm,A9];rcases tf (isN id) with h1|h1<;>simp only[h1,AB,AE,A5,AN,AW,A6];rcases tf (inB ti 0 999) with h2|h2<;>simp only[h2,AB,AE,A5,AN,AW,A6];rcases tf (inB nx 1 100) with h3|h3<;>simp only[h3,AB,AE,A5,AN,AW,A6];rcases EK (held.length:Int) 6 with h4|h4<;>rcases EK (marks.length:Int) 12 with h5|h5<;>rcases EK (inbox.length:Int) 6 with h6|h6<;>simp only[h4,h5,h6,AO,Af,A5,AN,BZ,AW,A6];rcases tf (F3 held) with h7|h7<;>rcases tf (Hi marks) with h8|h8<;>rcases tf (F3 inbox) with h9|h9<;>simp only[h7,h8,h9,AB,AE,A5,AN,BZ,AW,A6];rcases tf (BJ held.length<|IX id ti nx held marks) with h10|h10<;>rcases tf (BJ marks.length<|Jj id ti nx marks) with h11|h11<;>rcases tf (BJ inbox.length<|KS id ti nx marks inbox) with h12|h12<;>simp only[h10,h11,h12,A5,De,JP,A6,aaw sm,abY sm]<;>rfl
def oz{id ti nx:Int}{held:List A7}{marks:List Mark}{inbox:List A7}(sm:DM held marks inbox):PB ((id,ti,nx,held,marks,inbox,()),())=I ((BI ⟨id,ti,nx,held,marks,inbox⟩,()),()):=by
 unfold PB BI;simp only[HZ,JA,uu sm.hl sm.h,uu sm.il sm.i,as3 sm.ml,aso sm,aau sm,aAh sm,A9];rcases tf (isN id) with h1|h1<;>simp only[h1,AB,AE,A5,AN,AW,A6];rcases tf (inB ti 0 999) with h2|h2<;>simp only[h2,AB,AE,A5,AN,AW,A6];rcases tf (inB nx 1 100) with h3|h3<;>simp only[h3,AB,AE,A5,AN,AW,A6];rcases tf (A0 ((held.length:Int)<=6)&&F3 held) with h7|h7<;>rcases tf (A0 ((marks.length:Int)<=12)&&Hi marks) with h8|h8<;>rcases tf (A0 ((inbox.length:Int)<=6)&&F3 inbox) with h9|h9<;>simp only[h7,h8,h9,AB,AE,A5,AN,BZ,AW,A6];rcases tf (BJ held.length<|IX id ti nx held marks) with h10|h10<;>rcases tf (BJ marks.length<|Jj id ti nx marks) with h11|h11<;>rcases tf (BJ inbox.length<|KS id ti nx marks inbox) with h12|h12<;>simp only[h10,h11,h12,A5,De,JP,A6,aau sm,aAh sm]<;>rfl
def Kb{α:Type}{l:List α}{d:α}(hl:l.length<=1048576):
  (if A0 ((l.length:Int)=0) then I ((([]:List α),()),()) else if A0 (0<=(l.length:Int))&&A0 ((l.length:Int)<=4294967296) then I (((BH (BX (AK (l.length:Int)) d).length l++Bp l.length (BX (AK (l.length:Int)) d)),()),()) else U)=I ((l,()),()):=by
 by_cases h:(l.length:Int)=0
 .have:l=[]:=E9 J;subst this;rfl
 .have h1:(l.length:Int)<=4294967296:=J
  have h2:0<=(l.length:Int):=J
  simp[h1]
def bX{l:List A7}(hl:l.length<=1048576):O5 (l,())=I ((l,()),()):=Kb hl
def apG{l:List Mark}(hl:l.length<=1048576):iF (l,())=I ((l,()),()):=Kb hl
def pW{l:List A4}(hl:l.length<=1048576):RU (l,())=I ((l,()),()):=Kb hl
def qB{id ti nx:Int}{held:List A7}{marks:List Mark}{inbox:List A7}(sm:DM held marks inbox):QB ((id,ti,nx,held,marks,inbox,()),())=I (((id,ti,nx,held,marks,inbox,()),()),()):=by
 unfold QB;simp only[bX sm.hl,apG sm.ml,bX sm.il,A9]
def B7{n:Nat}(h:n<=4294967296):Ab n=A1:=by simpa[Ab] using h
def abm{id ti nx:Int}{held:List A7}{marks:List Mark}{inbox:List A7}(sm:DM held marks inbox):Qk ((id,ti,nx,held,marks,inbox,()),())=I (((id,ti,nx,held,marks,inbox,()),()),()):=by
 unfold Qk;have h1:=sm.hl;have h2:=sm.ml;have h3:=sm.il;simp only[CB,DS,Ef,B7<|show held.length<=4294967296 by omega,B7<|show marks.length<=4294967296 by omega,B7<|show inbox.length<=4294967296 by omega,A5]
def ayk{id:Int}:Xj (id,())=I ((if isN id then(id,0,1,[],[],[],()) else(0,0,0,[],[],[],()),()),()):=by
 unfold Xj;simp only[KI,A9];cases isN id<;>rfl
def agC{id:Int}:XI (id,())=I ((if isN id then(id,0,1,[],[],[],()) else(0,0,0,[],[],[],()),()),()):=by
 unfold XI;simp only[JA,A9];cases isN id<;>rfl
end Go.VS
end
