/- An evaluator of the program's own code with its soundness, the printed texts of the functions, and plain laws of them (part 18). -/
import Derived.Test.YtimdnaklfelapaaGreatDoorQAQ
set_option linter.unusedVariables false
set_option linter.unusedSimpArgs false
set_option linter.defProp false
open Bool renaming and_eq_true→aqt,and_false→aqV,eq_iff_iff→atb,false_and→aqz,not_eq_true'→aro,not_false→aqv,not_true→aqu,or_eq_true→aq8,true_and→aqB
open ByteArray renaming data_extract→atJ
open Go.IntKind renaming wrap→au7
open Int renaming toNat→aqy
open List renaming drop→aq9,eq_nil_of_length_eq_zero→aq2,getD_eq_getElem?_getD→aqE,length_nil→aq0,mem_of_getElem?→aqT,nil_append→arF,replicate→aqQ,take→aqR
open Nat renaming le_refl→aqG,lt_or_ge→asi,sub_self→atX,zero_add→arI,zero_le→arB
open Option renaming bind_some→aqs
noncomputable section
namespace Go.VS
open Go
section
variable {σ ρ β γ:Type} {b:σ→Option (σ ⊕ ρ)}
def an{x:σ}{y:ρ}(h:b x=some (.inr y)):aR b x=some y:=Rw (n:=1) (by simp[vM,h])
def ai{x x':σ}{y:ρ}(h:b x=some (.inl x'))(hy:aR b x'=some y):aR b x=some y:=by
 obtain⟨n,hn⟩:=VA hy;exact Rw (n:=n+1) (by simp[vM,h,hn])
def cO(st:Nat→σ)(n:Nat){y:ρ}(h: ∀ i,i < n→b (st i)=some (.inl (st (i+1))))(hn:b (st n)=some (.inr y)):aR b (st 0)=some y:=by
 have: ∀ k,k≤n→aR b (st (n - k))=some y:=by
  intro k
  induction k with
  | zero=>intro _;exact an hn
  | succ k ih=>
   intro hk;refine ai (h (n - (k+1)) (by omega)) ?_;rw[show n - (k+1)+1=n - k by omega];exact ih (by omega)
 have:=this n (aqG _);rwa[atX]at this
def ahj(Inv:Nat→σ→Prop)(ams:ρ→Prop)(n:Nat)(amI: ∀ i s,i < n→Inv i s→(∃ s',b s=some (.inl s')∧Inv (i+1) s')∨(∃ r,b s=some (.inr r)∧ams r))
  (aov: ∀ s,Inv n s→ ∃ r,b s=some (.inr r)∧ams r){s0:σ}(h0:Inv 0 s0): ∃ r,aR b s0=some r∧ams r:=by
 have: ∀ k,k≤n→ ∀ s,Inv (n - k) s→ ∃ r,aR b s=some r∧ams r:=by
  intro k
  induction k with
  | zero=>
   intro _ s hs;obtain⟨r,h1,h2⟩:=aov s hs;exact⟨r,an h1,h2⟩
  | succ k ih=>
   intro hk s hs;rcases amI _ s (by omega) hs with⟨s',h1,h2⟩ | ⟨r,h1,h2⟩
   ·rw[show n - (k+1)+1=n - k by omega]at h2;obtain⟨r,h3,h4⟩:=ih (by omega) s' h2;exact⟨r,ai h1 h3,h4⟩
   ·exact⟨r,an h1,h2⟩
 exact this n (aqG _) s0 (by rwa[atX])
end
def CP{β:Type}(q:Nat→Option β):Nat→Nat→Option β
 | 0,_=>none
 | k+1,i=>match q i with
  | some r=>some r
  | none=>CP q k (i+1)
section
variable {σ β γ:Type} {b:σ→Option (σ ⊕ (β ⊕ γ))}
def VB(st:Nat→σ)(n:Nat)(q:Nat→Option β)(fin:γ)
  (h: ∀ i,i < n→b (st i)=some (match q i with | none=> .inl (st (i+1)) | some r=> .inr (.inl r)))
  (hn:b (st n)=some (.inr (.inr fin))):aR b (st 0)=some (match CP q n 0 with | none=> .inr fin | some r=> .inl r):=by
 have: ∀ k,k≤n→aR b (st (n - k))=some (match CP q k (n - k) with | none=> .inr fin | some r=> .inl r):=by
  intro k
  induction k with
  | zero=>intro _;exact an hn
  | succ k ih=>
   intro hk;have h1:=h (n - (k+1)) (by omega);unfold CP;cases hq:q (n - (k+1)) with
   | some r=>rw[hq]at h1;exact an h1
   | none=>
    rw[hq]at h1;refine ai h1 ?_;rw[show n - (k+1)+1=n - k by omega];exact ih (by omega)
 have:=this n (aqG _);rwa[atX]at this
def sG(p:Nat→Bool):Nat→Nat→Bool
 | 0,_=>true
 | k+1,i=>p i&&sG p k (i+1)
def db(n:Nat)(p:Nat→Bool):Bool:=sG p n 0
def XR{p:Nat→Bool}{r:β}: ∀ (k i:Nat),CP (fun i=>if p i then none else some r) k i=if sG p k i then none else some r
 | 0,_=>rfl
 | k+1,i=>by
  unfold CP sG;cases hp:p i
  ·simp
  ·simpa using XR k (i+1)
def cS(st:Nat→σ)(n:Nat)(p:Nat→Bool)(r:β)(fin:γ)
  (h: ∀ i,i < n→b (st i)=some (if p i then .inl (st (i+1)) else .inr (.inl r)))
  (hn:b (st n)=some (.inr (.inr fin))):aR b (st 0)=some (if db n p then .inr fin else .inl r):=by
 rw[VB st n (fun i=>if p i then none else some r) fin (fun i hi=>by rw[h i hi];cases p i<;>rfl) hn,XR,db];cases sG p n 0<;>rfl
def oV(n:Nat)(p:Nat→Bool):Int:=(CP (fun i=>if p i then some (i:Int) else none) n 0).getD (-1)
def XQ{p:Nat→Bool}{f:Int→β}: ∀ (k i:Nat),CP (fun i=>if p i then some (f (i:Int)) else none) k i=(CP (fun i=>if p i then some (i:Int) else none) k i).map f
 | 0,_=>rfl
 | k+1,i=>by
  unfold CP;cases hp:p i
  ·simpa using XQ k (i+1)
  ·simp
def K9{q:Nat→Option β}{r:β}: ∀ (k i:Nat),CP q k i=some r→ ∃ j,i≤j∧j < i+k∧q j=some r∧ ∀ l,i≤l→l < j→q l=none
 | 0,_,h=>by cases h
 | k+1,i,h=>by
  unfold CP at h;split at h
  ·rename_i r' hr;cases h;exact⟨i,aqG _,by omega,hr,fun l h1 h2=>by omega⟩
  ·rename_i hr;obtain⟨j,h1,h2,h3,h4⟩:=K9 k (i+1) h;exact⟨j,by omega,by omega,h3,fun l h5 h6=>by
    rcases asi i l with h7 | h7
    ·exact h4 l h7 h6
    ·rw[show l=i by omega];exact hr⟩
def U9{q:Nat→Option β}: ∀ (k i:Nat),CP q k i=none→ ∀ l,i≤l→l < i+k→q l=none
 | 0,_,_,l,h1,h2=>by omega
 | k+1,i,h,l,h1,h2=>by
  unfold CP at h;split at h
  ·cases h
  ·rename_i hr;rcases asi i l with h7 | h7
   ·exact U9 k (i+1) h l h7 (by omega)
   ·rw[show l=i by omega];exact hr
def bF(n:Nat)(p:Nat→Bool):(oV n p= -1∧ ∀ i,i < n→p i=false)∨ ∃ i:Nat,oV n p=i∧i < n∧p i=true∧ ∀ l,l < i→p l=false:=by
 unfold oV;cases h:CP (fun i=>if p i then some (i:Int) else none) n 0 with
 | none=>
  refine .inl ⟨rfl,fun i hi=> ?_⟩;have:=U9 n 0 h i (arB _) (by omega);cases hp:p i<;>simp[hp]at this ⊢
 | some r=>
  obtain⟨j,h1,h2,h3,h4⟩:=K9 n 0 h;refine .inr ⟨j, ?_,by omega, ?_,fun l hl=> ?_⟩
  ·cases hp:p j<;>simp[hp]at h3;simp[h3]
  ·cases hp:p j<;>simp[hp]at h3 ⊢
  ·have:=h4 l (arB _) hl;cases hp:p l<;>simp[hp]at this ⊢
def rG(st:Nat→σ)(n:Nat)(p:Nat→Bool)(f:Int→β)(fin:γ)
  (h: ∀ i,i < n→b (st i)=some (if p i then .inr (.inl (f (i:Int))) else .inl (st (i+1))))
  (hn:b (st n)=some (.inr (.inr fin))):aR b (st 0)=some (if oV n p < 0 then .inr fin else .inl (f (oV n p))):=by
 rw[VB st n (fun i=>if p i then some (f (i:Int)) else none) fin (fun i hi=>by rw[h i hi];cases p i<;>rfl) hn,XQ];rcases bF n p with⟨h1,_⟩ | ⟨i,h1,_⟩
 ·rw[h1];unfold oV at h1;cases h2:CP (fun i=>if p i then some (i:Int) else none) n 0 with
  | none=>simp
  | some r=>
   obtain⟨j,_,_,h3,_⟩:=K9 n 0 h2;cases hp:p j<;>simp[hp]at h3;rw[h2]at h1;simp at h1;omega
 ·rw[h1];unfold oV at h1;cases h2:CP (fun i=>if p i then some (i:Int) else none) n 0 with
  | none=>rw[h2]at h1;simp at h1
  | some r=>
   rw[h2]at h1;simp at h1;subst h1;simp
end
def ND{p:Nat→Bool}: ∀ (k i:Nat),sG p k i=true↔ ∀ j,i≤j→j < i+k→p j=true
 | 0,_=>by simp only[sG,true_iff];intro j h1 h2;omega
 | k+1,i=>by
  unfold sG;rw[aqt,ND k (i+1)];constructor
  ·rintro⟨h1,h2⟩ j h3 h4;rcases asi i j with h7 | h7
   ·exact h2 j h7 (by omega)
   ·rw[show j=i by omega];exact h1
  ·intro h;exact⟨h i (aqG _) (by omega),fun j h1 h2=>h j (by omega) (by omega)⟩
def cw{n:Nat}{p:Nat→Bool}:db n p=true↔ ∀ i,i < n→p i=true:=by
 unfold db;rw[ND];exact⟨fun h i hi=>h i (arB _) (by omega),fun h j _ h2=>h j (by omega)⟩
def dO{A D Ω:Type}{f:A→Option Ω}{g:D→Option Ω}{y:D}:aJ (some (.inr y)) f g=g y:=rfl
def yG{A D Ω:Type}{f:A→Option Ω}{g:D→Option Ω}{y:A}:aJ (some (.inl y)) f g=f y:=rfl
def aS{X Ω:Type}{f:X→Option Ω}{y:X}:bB f (some (.inr y))=f y:=rfl
def oT{X Ω:Type}{f:X→Option Ω}{y:Ω}:bB f (some (.inl y))=some y:=rfl
def ah{n:Int}(h0: -9223372036854775808≤n)(h1:n≤9223372036854775807):w64 n=n:=by
 unfold w64;rw[IntKind.wrap_i64];omega
def M7(n:Int):w8 n=n % 256:=by
 unfold w8 au7;simp[IntKind.signed,IntKind.bits]
def aG{i n:Nat}(h:i < n)(hn:n≤9223372036854775807):w64 ((i:Int)+1)=((i+1:Nat):Int):=by
 rw[ah (by omega) (by omega)];omega
def G7{α:Type}(d:α)(xs:List α)(i:Nat):rd d xs (i:Int)=xs.getD i d:=rfl
def ahl(i n:Nat):inb (i:Int) n=decide (i < n):=by
 unfold inb;by_cases h:i < n
 ·simp[h]
 ·simp[h]
def ak{i n:Nat}(h:i < n):inb (i:Int) n=true:=by rw[ahl];simpa using h
abbrev L(s:aqp):List UInt8:=s.data.toList
def aN(s:aqp):(L s).length=s.size:=rfl
def oX{s t:aqp}(h:L s=L t):s=t:=by
 cases s;cases t;simp[L]at h;exact congrArg _ h
def rp(s t:aqp):L (s++t)=L s++L t:=by simp[L,ByteArray.data_append]
def jd(s:aqp)(a b:Nat):L (s.extract a b)=((L s).drop a).take (b - a):=by
 simp[L,atJ,Array.toList_extract,List.extract_eq_take_drop]
def ay(s t:aqp):(s++t).size=s.size+t.size:=ByteArray.size_append ..
def L_B(l:List UInt8):L (B l)=l:=rfl
def aO(l:List UInt8):(B l).size=l.length:=rfl
def ajn(l:List UInt8):L ⟨l.toArray⟩=l:=rfl
def wE(s:aqp)(i:Nat):bt s (i:Int)=(((L s).getD i 0).toNat:Int):=rfl
def ajC(s:aqp)(i:Int):0≤bt s i:=by unfold bt;omega
def ajD(s:aqp)(i:Int):bt s i≤255:=by
 unfold bt;have:=(s.data.toList.getD i.toNat 0).toNat_lt;omega
end Go.VS
namespace Go.VS
open Go
def Sz(f:Option ((Int×aqq)×aqq))(left:Int)(p:Prop):Prop:= ∃ r,f=some ((r,()),())∧ -1≤r∧r≤left∧(0≤r→p)
def agL(m:ajV):Prop:=m.da.size≤1048576
def K6(h:ajY):Prop:=h.got.length≤1048576∧ ∀ m∈h.got,agL m
def dy(k:ajR):Prop:=k.log.size≤1048576∧k.ajS.length≤1048576∧ ∀ h∈k.ajS,K6 h
def aeH(p:ajW):Prop:=p.data.size≤1048576
def mJ(n:ajT):Prop:=n.tx.size≤1048576
def EJ{α:Type}{l:List α}{i:Nat}{x d:α}(h:l[i]? =some x):l.getD i d=x:=by simp[h]
def bp{i n:Nat}(h:i < n):decide ((i:Int) < (n:Int))=true:=by simpa using h
structure aoC (ks:List ajR) (ls:List Bool) (ra:List ajW) (se go:List ajT):Prop where
 kl:ks.length≤1048576
 k: ∀ x∈ks,dy x
 l:ls.length≤1048576
 rl:ra.length≤1048576
 r: ∀ x∈ra,aeH x
 sl:se.length≤1048576
 s: ∀ x∈se,mJ x
 gl:go.length≤1048576
 g: ∀ x∈go,mJ x
end Go.VS
namespace Go.VS
open Go
end Go.VS
namespace Go.VS
open Go
@[simp] theorem c9 (q:Bool):bg false q=true:=by cases q<;>rfl
@[simp] theorem eL (q:Bool):bg true q=q:=by cases q<;>rfl
def tf(b:Bool):b=true∨b=false:=by cases b<;>simp
def inB(n lo hi:Int):Bool:=decide (lo≤n)&&decide (n≤hi)
def ae{n lo hi:Int}:inB n lo hi=true↔lo≤n∧n≤hi:=by simp[inB]
abbrev isN(n:Int):Bool:=inB n 0 3
@[simp] theorem bO {n lo hi:Int} :aK (n,lo,hi,())=some ((inB n lo hi,()),()):=rfl
@[simp] theorem dE {n lo hi:Int} :ap (n,lo,hi,())=some ((inB n lo hi,()),()):=rfl
@[simp] theorem dr {n:Int} :bj (n,())=some ((isN n,()),()):=rfl
@[simp] theorem cQ {n:Int} :aQ (n,())=some ((isN n,()),()):=rfl
abbrev tin(s:aqp):Bool:=db s.size fun i=>inB (bt s i) 32 126
def Tx(s:aqp):Bool:=inB s.size 1 24&&tin s
def aek{s:aqp}{i:Int}:w64 (bt s i)=bt s i:=ah (by have:=ajC s i;omega) (by have:=ajD s i;omega)
@[simp] theorem Ua {s:aqp} (hs:s.size≤1048576):fl (s,())=some ((Tx s,()),()):=by
 have h:qd (s,0,())=some (if tin s then .inr (s,()) else .inl (false,())):=
  cS (fun i=>(s,(i:Int),())) s.size (fun i=>inB (bt s i) 32 126) (false,()) (s,()) (fun i hi=>by
   unfold qe;simp only[ak hi,bp hi,aek,bO,aqs,aG hi (by omega:s.size≤9223372036854775807)];cases inB (bt s i) 32 126<;>rfl) (by simp[qe])
 unfold fl;simp only[h];unfold Tx;cases tin s<;>simp[aJ]
def aB(n:ajT):Bool:=isN n.fr&&(isN n.to&&(inB n.nu 1 99&&(inB n.un 1 999&&Tx n.tx)))
@[simp] theorem sw {fr nu tt un:Int} {tx:aqp} (hs:tx.size≤1048576):gY ((fr,nu,tt,un,tx,()),())=some ((aB ⟨fr,nu,tt,un,tx⟩,()),()):=by
 unfold gY aB;simp only[Ua hs,bO,dr,aqs];cases isN fr<;>cases isN tt<;>cases inB nu 1 99<;>cases inB un 1 999<;>simp[bg]
@[simp] theorem x4 {fr nu tt un:Int} {tx:aqp} (hs:tx.size≤1048576):jT ((fr,nu,tt,un,tx,()),())=some ((aB ⟨fr,nu,tt,un,tx⟩,()),()):=by
 have h:pz ((fr,nu,tt,un,tx,()),0,())=some (if tin tx then .inr () else .inl (false,())):=
  cS (fun i=>((fr,nu,tt,un,tx,()),(i:Int),())) tx.size (fun i=>inB (bt tx i) 32 126) (false,()) () (fun i hi=>by
   unfold pB;simp only[ak hi,bp hi,aG hi (by omega:tx.size≤9223372036854775807)];unfold inB;by_cases h1:bt tx i < 32<;>by_cases h2:126 < bt tx i<;>simp[h1,h2,bg]<;>omega) (by simp[pB])
 unfold jT aB;simp only[h,dE,cQ,aqs];unfold Tx;by_cases h1:(tx.size:Int) < 1<;>by_cases h2:(24:Int) < tx.size<;>cases isN fr<;>cases isN tt<;>cases inB nu 1 99<;>cases inB un 1 999<;>cases tin tx<;>simp[h1,h2,aJ,inB]<;>omega
def AF(m:Mark):Bool:=isN m.mf&&(inB m.mn 1 99&&inB m.mu 1 999)
@[simp] theorem Uc {a b c:Int} :ss ((a,b,c,()),())=some ((AF ⟨a,b,c⟩,()),()):=by
 unfold ss AF;simp only[bO,dr,aqs];cases isN a<;>cases inB b 1 99<;>simp[bg]
def bef(a b c d:Int):Bool:=decide (a < c)||(decide (a=c)&&decide (b < d))
@[simp] theorem ka {a b c d:Int} :dt (a,b,c,d,())=some ((bef a b c d,()),()):=rfl
@[simp] theorem wM {a b c d:Int} :dx (a,b,c,d,())=some ((bef a b c d,()),()):=rfl
def nA(l:List ajT)(i:Nat):ajT:=l.getD i (dfl .note)
def mA(l:List Mark)(i:Nat):Mark:=l.getD i (dfl .mark)
def cL(l:List ajT)(i:Nat): @rd ajT (dfl .note) l (i:Int)=nA l i:=rfl
def dM(l:List Mark)(i:Nat): @rd Mark (dfl .mark) l (i:Int)=mA l i:=rfl
def dA(l:List ajT):Bool:=db l.length fun i=>aB (nA l i)&&(decide (i=0)||bef (nA l (i - 1)).fr (nA l (i - 1)).nu (nA l i).fr (nA l i).nu)
def ir(l:List Mark):Bool:=db l.length fun i=>AF (mA l i)&&(decide (i=0)||bef (mA l (i - 1)).mf (mA l (i - 1)).mn (mA l i).mf (mA l i).mn)
def ah6{l:List ajT}(h: ∀ x∈l,mJ x)(i:Nat):(nA l i).tx.size≤1048576:=by
 unfold nA;cases hx:l[i]? with
 | none=>simp[hx,dfl];decide
 | some x=>
  have h1:x.tx.size≤1048576:=h x (aqT hx);rw[aqE,hx];exact h1
def Ic{i n:Nat}(h:i < n)(hn:n≤9223372036854775807):w64 ((i:Int) - 1)=(i:Int) - 1:=ah (by omega) (by omega)
def Dk{l:List ajT}(hl:l.length≤1048576)(h: ∀ x∈l,mJ x):lp (l,())=some ((dA l,()),()):=by
 have h:oA (l,l,(l.length:Int),0,())=some (if dA l then .inr () else .inl (false,())):=
  cS (fun i=>(l,l,(l.length:Int),(i:Int),())) l.length (fun i=>aB (nA l i)&&(decide (i=0)||bef (nA l (i - 1)).fr (nA l (i - 1)).nu (nA l i).fr (nA l i).nu)) (false,()) () (fun i hi=>by
   unfold nN;simp only[ak hi,bp hi,cL,sw (ah6 h i),aqs,ka,aG hi (by omega:l.length≤9223372036854775807)];cases i with
   | zero=>rcases tf (aB (nA l 0)) with h1 | h1<;>simp only[h1]<;>simp
   | succ j=>
    rw[Ic hi (by omega),show((j+1:Nat):Int) - 1=(j:Int) by omega,ak (show j < l.length by omega)];simp only[cL];rcases tf (aB (nA l (j+1))) with h1 | h1<;>rcases tf (bef (nA l j).fr (nA l j).nu (nA l (j+1)).fr (nA l (j+1)).nu) with h2 | h2<;>simp only[h1,h2]<;>simp[h2]) (by simp[nN])
 unfold lp;simp only[h];cases dA l<;>simp[aJ]
def Bh{l:List ajT}{akz:Int}(hl:l.length≤1048576)(h: ∀ x∈l,mJ x):jI (l,akz,())=some ((decide ((l.length:Int)≤akz)&&dA l,()),()):=by
 have h:mG (l,0,())=some (if dA l then .inr () else .inl (false,())):=
  cS (fun i=>(l,(i:Int),())) l.length (fun i=>aB (nA l i)&&(decide (i=0)||bef (nA l (i - 1)).fr (nA l (i - 1)).nu (nA l i).fr (nA l i).nu)) (false,()) () (fun i hi=>by
   unfold lO;simp only[ak hi,bp hi,cL,x4 (ah6 h i),aqs,wM,aG hi (by omega:l.length≤9223372036854775807)];cases i with
   | zero=>rcases tf (aB (nA l 0)) with h1 | h1<;>simp only[h1]<;>simp
   | succ j=>
    rw[Ic hi (by omega),show((j+1:Nat):Int) - 1=(j:Int) by omega,ak (show j < l.length by omega)];simp only[cL];rcases tf (aB (nA l (j+1))) with h1 | h1<;>rcases tf (bef (nA l j).fr (nA l j).nu (nA l (j+1)).fr (nA l (j+1)).nu) with h2 | h2<;>simp only[h1,h2]<;>simp[h2]) (by simp[lO])
 unfold jI;simp only[h];by_cases hm:(l.length:Int)≤akz
 ·rw[show decide (akz < (l.length:Int))=false by simpa using hm];cases dA l<;>simp[aJ,hm]
 ·rw[show decide (akz < (l.length:Int))=true by simpa using hm];simp[hm]
def RD{l:List Mark}(hl:l.length≤1048576):qn (l,())=some ((ir l,()),()):=by
 have h:oD (l,l,(l.length:Int),0,())=some (if ir l then .inr () else .inl (false,())):=
  cS (fun i=>(l,l,(l.length:Int),(i:Int),())) l.length (fun i=>AF (mA l i)&&(decide (i=0)||bef (mA l (i - 1)).mf (mA l (i - 1)).mn (mA l i).mf (mA l i).mn)) (false,()) () (fun i hi=>by
   unfold nP;simp only[ak hi,bp hi,dM,Uc,aqs,ka,aG hi (by omega:l.length≤9223372036854775807)];cases i with
   | zero=>rcases tf (AF (mA l 0)) with h1 | h1<;>simp only[h1]<;>simp
   | succ j=>
    rw[Ic hi (by omega),show((j+1:Nat):Int) - 1=(j:Int) by omega,ak (show j < l.length by omega)];simp only[dM];rcases tf (AF (mA l (j+1))) with h1 | h1<;>rcases tf (bef (mA l j).mf (mA l j).mn (mA l (j+1)).mf (mA l (j+1)).mn) with h2 | h2<;>simp only[h1,h2]<;>simp[h2]) (by simp[nP])
 unfold qn;simp only[h];cases ir l<;>simp[aJ]
def NK{l:List Mark}(hl:l.length≤1048576):nE (l,())=some ((decide ((l.length:Int)≤12)&&ir l,()),()):=by
 have h:mH (l,0,())=some (if ir l then .inr () else .inl (false,())):=
  cS (fun i=>(l,(i:Int),())) l.length (fun i=>AF (mA l i)&&(decide (i=0)||bef (mA l (i - 1)).mf (mA l (i - 1)).mn (mA l i).mf (mA l i).mn)) (false,()) () (fun i hi=>by
   unfold lP AF;simp only[ak hi,bp hi,dM,dE,cQ,aqs,wM,aG hi (by omega:l.length≤9223372036854775807)];cases i with
   | zero=>rcases tf (isN (mA l 0).mf) with h1 | h1<;>rcases tf (inB (mA l 0).mn 1 99) with h2 | h2<;>rcases tf (inB (mA l 0).mu 1 999) with h3 | h3<;>simp only[h1,h2,h3]<;>simp
   | succ j=>
    rw[Ic hi (by omega),show((j+1:Nat):Int) - 1=(j:Int) by omega,ak (show j < l.length by omega)];simp only[dM];rcases tf (isN (mA l (j+1)).mf) with h1 | h1<;>rcases tf (inB (mA l (j+1)).mn 1 99) with h2 | h2<;>rcases tf (inB (mA l (j+1)).mu 1 999) with h3 | h3<;>rcases tf (bef (mA l j).mf (mA l j).mn (mA l (j+1)).mf (mA l (j+1)).mn) with h4 | h4<;>simp only[h1,h2,h3]<;>simp[h4]<;>omega) (by simp[lP])
 unfold nE;simp only[h];by_cases hm:(l.length:Int)≤12
 ·rw[show decide ((12:Int) < (l.length:Int))=false by simpa using hm];cases ir l<;>simp[aJ,hm]
 ·rw[show decide ((12:Int) < (l.length:Int))=true by simpa using hm];simp[hm]
def aP(l:List ajT)(f n:Int):Int:=oV l.length fun i=>decide ((nA l i).fr=f)&&decide ((nA l i).nu=n)
def gH(l:List Mark)(f n:Int):Int:=oV l.length fun i=>decide ((mA l i).mf=f)&&decide ((mA l i).mn=n)
def yH{n:Nat}{p:Nat→Bool}:aJ (some (if oV n p < 0 then(.inr ():(Int×aqq) ⊕ aqq) else .inl (oV n p,()))) (fun y=>some ((y.1,()),())) (fun _=>some ((-1,()),()))=some ((oV n p,()),()):=by
 rcases bF n p with⟨h,_⟩ | ⟨i,h,_⟩
 ·rw[h];rfl
 ·rw[aqg (by omega)];rfl
def dY{l:List ajT}{f n:Int}(hl:l.length≤1048576):ca (l,f,n,())=some ((aP l f n,()),()):=by
 have h:qj (f,n,l,(l.length:Int),0,())=some (if aP l f n < 0 then .inr () else .inl (aP l f n,())):=
  rG (fun i=>(f,n,l,(l.length:Int),(i:Int),())) l.length (fun i=>decide ((nA l i).fr=f)&&decide ((nA l i).nu=n)) (fun i=>(i,())) () (fun i hi=>by
   unfold qk;simp only[ak hi,bp hi,cL,aG hi (by omega:l.length≤9223372036854775807)];by_cases h1:(nA l i).fr=f<;>by_cases h2:(nA l i).nu=n<;>simp[h1,h2]) (by simp[qk])
 unfold ca;simp only[h];exact yH
def bX{l:List ajT}{f n:Int}(hl:l.length≤1048576):aW (l,f,n,())=some ((aP l f n,()),()):=by
 have h:oh (l,f,n,0,())=some (if aP l f n < 0 then .inr () else .inl (aP l f n,())):=
  rG (fun i=>(l,f,n,(i:Int),())) l.length (fun i=>decide ((nA l i).fr=f)&&decide ((nA l i).nu=n)) (fun i=>(i,())) () (fun i hi=>by
   unfold nG;simp only[ak hi,bp hi,cL,aG hi (by omega:l.length≤9223372036854775807)];by_cases h1:(nA l i).fr=f<;>by_cases h2:(nA l i).nu=n<;>simp[h1,h2]) (by simp[nG])
 unfold aW;simp only[h];exact yH
def jZ{l:List Mark}{f n:Int}(hl:l.length≤1048576):cU (l,f,n,())=some ((gH l f n,()),()):=by
 have h:qt (f,n,l,(l.length:Int),0,())=some (if gH l f n < 0 then .inr () else .inl (gH l f n,())):=
  rG (fun i=>(f,n,l,(l.length:Int),(i:Int),())) l.length (fun i=>decide ((mA l i).mf=f)&&decide ((mA l i).mn=n)) (fun i=>(i,())) () (fun i hi=>by
   unfold qu;simp only[ak hi,bp hi,dM,aG hi (by omega:l.length≤9223372036854775807)];by_cases h1:(mA l i).mf=f<;>by_cases h2:(mA l i).mn=n<;>simp[h1,h2]) (by simp[qu])
 unfold cU;simp only[h];exact yH
def iF{l:List Mark}{f n:Int}(hl:l.length≤1048576):cq (l,f,n,())=some ((gH l f n,()),()):=by
 have h:og (l,f,n,0,())=some (if gH l f n < 0 then .inr () else .inl (gH l f n,())):=
  rG (fun i=>(l,f,n,(i:Int),())) l.length (fun i=>decide ((mA l i).mf=f)&&decide ((mA l i).mn=n)) (fun i=>(i,())) () (fun i hi=>by
   unfold nF;simp only[ak hi,bp hi,dM,aG hi (by omega:l.length≤9223372036854775807)];by_cases h1:(mA l i).mf=f<;>by_cases h2:(mA l i).mn=n<;>simp[h1,h2]) (by simp[nF])
 unfold cq;simp only[h];exact yH
def mw(id:Int)(fr tt:Int):Bool:= !decide (id=tt)&&(inB id fr tt||inB id tt fr)
def AK{id fr nu tt un:Int}{tx:aqp}:qg (id,(fr,nu,tt,un,tx,()),())=some ((mw id fr tt,()),()):=by
 unfold qg mw;simp only[bO];by_cases h:id=tt<;>cases inB id fr tt<;>simp[h]
def xZ{id fr nu tt un:Int}{tx:aqp}:sa ((fr,nu,tt,un,tx,()),id,())=some ((mw id fr tt,()),()):=by
 unfold sa mw inB;by_cases h1:fr≤id
 ·simp only[h1,aqn,aqm];congr 3;rw[atb];simp;omega
 ·have e:(decide (tt < id)&&decide (id≤fr))=(!decide (id=tt)&&(decide (fr≤id)&&decide (id≤tt)||decide (tt≤id)&&decide (id≤fr))):=by
   rw[atb];simp only[aqt,aq8,aro,decide_eq_true_eq,decide_eq_false_iff_not];omega
  rw[← e];simp[h1]
end Go.VS
namespace Go.VS
open Go
structure aj7 (held:List ajT) (marks:List Mark) (inbox:List ajT):Prop where
 hl:held.length≤1048576
 h: ∀ x∈held,mJ x
 ml:marks.length≤1048576
 il:inbox.length≤1048576
 i: ∀ x∈inbox,mJ x
def oK(id ti nx:Int)(held:List ajT)(marks:List Mark)(i:Nat):Bool:= !(decide ((nA held i).fr=id)&&decide (nx≤(nA held i).nu))&&(decide (ti < (nA held i).un)&&(mw id (nA held i).fr (nA held i).to&&decide (gH marks (nA held i).fr (nA held i).nu < 0)))
def jL(id ti nx:Int)(marks:List Mark)(i:Nat):Bool:=decide (ti < (mA marks i).mu)&& !(decide ((mA marks i).mf=id)&&decide (nx≤(mA marks i).mn))
def nM(id ti nx:Int)(marks:List Mark)(inbox:List ajT)(i:Nat):Bool:=decide ((nA inbox i).to=id)&&(!(decide ((nA inbox i).fr=id)&&decide (nx≤(nA inbox i).nu))&&(!decide (ti < (nA inbox i).un)||decide (0≤gH marks (nA inbox i).fr (nA inbox i).nu)))
def aE(k:ajZ):Bool:=isN k.id&&(inB k.ti 0 999&&(inB k.nx 1 100&&((decide ((k.held.length:Int)≤6)&&dA k.held)&&((decide ((k.marks.length:Int)≤12)&&ir k.marks)&&((decide ((k.inbox.length:Int)≤6)&&dA k.inbox)&&
 (db k.held.length (oK k.id k.ti k.nx k.held k.marks)&&(db k.marks.length (jL k.id k.ti k.nx k.marks)&&db k.inbox.length (nM k.id k.ti k.nx k.marks k.inbox))))))))
def aaj(l:List Mark)(f n:Int):gH l f n= -1∨0≤gH l f n:=by
 rcases bF l.length (fun i=>decide ((mA l i).mf=f)&&decide ((mA l i).mn=n)) with⟨h,_⟩ | ⟨i,h,_⟩
 ·exact .inl h
 ·exact .inr (by unfold gH;omega)
def tfp(p:Prop):(p=True)∨(p=False):=by
 by_cases h:p
 ·exact .inl (eq_true h)
 ·exact .inr (eq_false h)
def sgn(n:Int):((n < 0)=True∧(0≤n)=False)∨((n < 0)=False∧(0≤n)=True):=by
 by_cases h:n < 0
 ·exact .inl ⟨eq_true h,eq_false (by omega)⟩
 ·exact .inr ⟨eq_false h,eq_true (by omega)⟩
def p9(a b:Int):((a≤b)=True∧(b < a)=False)∨((a≤b)=False∧(b < a)=True):=by
 by_cases h:a≤b
 ·exact .inl ⟨eq_true h,eq_false (by omega)⟩
 ·exact .inr ⟨eq_false h,eq_true (by omega)⟩
def aaf(l:List ajT)(f n:Int):aP l f n= -1∨0≤aP l f n:=by
 rcases bF l.length (fun i=>decide ((nA l i).fr=f)&&decide ((nA l i).nu=n)) with⟨h,_⟩ | ⟨i,h,_⟩
 ·exact .inl h
 ·exact .inr (by unfold aP;omega)
def RJ{id ti nx:Int}{held:List ajT}{marks:List Mark}{inbox:List ajT}(sm:aj7 held marks inbox):
  qM ((id,ti,nx,held,marks,inbox,()),held,(held.length:Int),0,())=some (if db held.length (oK id ti nx held marks) then .inr ((id,ti,nx,held,marks,inbox,()),()) else .inl (false,())):=
 cS (fun i=>((id,ti,nx,held,marks,inbox,()),held,(held.length:Int),(i:Int),())) held.length (oK id ti nx held marks) (false,()) ((id,ti,nx,held,marks,inbox,()),()) (fun i hi=>by
  unfold qP oK;have hl:held.length≤9223372036854775807:=by have:=sm.hl;omega
  simp only[ak hi,bp hi,cL,dM,jZ sm.ml,AK,aqs,aG hi hl];have h4:=sgn (gH marks (nA held i).fr (nA held i).nu);rcases tfp ((nA held i).fr=id) with h1 | h1<;>rcases tfp (nx≤(nA held i).nu) with h2 | h2<;>rcases p9 (nA held i).un ti with h3 | h3<;>rcases h4 with h4 | h4<;>rcases tf (mw id (nA held i).fr (nA held i).to) with h5 | h5<;>simp[h1,h2,h5,h4,h3]) (by simp[qP])
def Dw{id ti nx:Int}{held:List ajT}{marks:List Mark}{inbox:List ajT}(sm:aj7 held marks inbox):
  qL ((id,ti,nx,held,marks,inbox,()),marks,(marks.length:Int),0,())=some (if db marks.length (jL id ti nx marks) then .inr ((id,ti,nx,held,marks,inbox,()),()) else .inl (false,())):=
 cS (fun i=>((id,ti,nx,held,marks,inbox,()),marks,(marks.length:Int),(i:Int),())) marks.length (jL id ti nx marks) (false,()) ((id,ti,nx,held,marks,inbox,()),()) (fun i hi=>by
  unfold qO jL;have hl:marks.length≤9223372036854775807:=by have:=sm.ml;omega
  simp only[ak hi,bp hi,cL,dM,jZ sm.ml,AK,aqs,aG hi hl];rcases tfp ((mA marks i).mf=id) with h1 | h1<;>rcases tfp (nx≤(mA marks i).mn) with h2 | h2<;>rcases p9 (mA marks i).mu ti with h3 | h3<;>simp[h1,h2,h3]) (by simp[qO])
def Dv{id ti nx:Int}{held:List ajT}{marks:List Mark}{inbox:List ajT}(sm:aj7 held marks inbox):
  qK ((id,ti,nx,held,marks,inbox,()),inbox,(inbox.length:Int),0,())=some (if db inbox.length (nM id ti nx marks inbox) then .inr () else .inl (false,())):=
 cS (fun i=>((id,ti,nx,held,marks,inbox,()),inbox,(inbox.length:Int),(i:Int),())) inbox.length (nM id ti nx marks inbox) (false,()) () (fun i hi=>by
  unfold qN nM;have hl:inbox.length≤9223372036854775807:=by have:=sm.il;omega
  simp only[ak hi,bp hi,cL,dM,jZ sm.ml,AK,aqs,aG hi hl];have h4:=sgn (gH marks (nA inbox i).fr (nA inbox i).nu);rcases tfp ((nA inbox i).fr=id) with h1 | h1<;>rcases tfp (nx≤(nA inbox i).nu) with h2 | h2<;>rcases p9 (nA inbox i).un ti with h3 | h3<;>rcases tfp ((nA inbox i).to=id) with h0 | h0<;>rcases h4 with h4 | h4<;>simp[h1,h2,h0,h4,h3]) (by simp[qN])
def Qa{id ti nx:Int}{held:List ajT}{marks:List Mark}{inbox:List ajT}(sm:aj7 held marks inbox):
  pM ((id,ti,nx,held,marks,inbox,()),0,())=some (if db held.length (oK id ti nx held marks) then .inr ((id,ti,nx,held,marks,inbox,()),()) else .inl (false,())):=
 cS (fun i=>((id,ti,nx,held,marks,inbox,()),(i:Int),())) held.length (oK id ti nx held marks) (false,()) ((id,ti,nx,held,marks,inbox,()),()) (fun i hi=>by
  unfold pP oK;have hl:held.length≤9223372036854775807:=by have:=sm.hl;omega
  simp only[ak hi,bp hi,cL,dM,iF sm.ml,xZ,aqs,aG hi hl];have h4:=sgn (gH marks (nA held i).fr (nA held i).nu);rcases tfp ((nA held i).fr=id) with h1 | h1<;>rcases tfp (nx≤(nA held i).nu) with h2 | h2<;>rcases p9 (nA held i).un ti with h3 | h3<;>rcases h4 with h4 | h4<;>rcases tf (mw id (nA held i).fr (nA held i).to) with h5 | h5<;>simp[h1,h2,h5,h4,h3]) (by simp[pP])
def CM{id ti nx:Int}{held:List ajT}{marks:List Mark}{inbox:List ajT}(sm:aj7 held marks inbox):
  pL ((id,ti,nx,held,marks,inbox,()),0,())=some (if db marks.length (jL id ti nx marks) then .inr ((id,ti,nx,held,marks,inbox,()),()) else .inl (false,())):=
 cS (fun i=>((id,ti,nx,held,marks,inbox,()),(i:Int),())) marks.length (jL id ti nx marks) (false,()) ((id,ti,nx,held,marks,inbox,()),()) (fun i hi=>by
  unfold pO jL;have hl:marks.length≤9223372036854775807:=by have:=sm.ml;omega
  simp only[ak hi,bp hi,cL,dM,iF sm.ml,xZ,aqs,aG hi hl];rcases tfp ((mA marks i).mf=id) with h1 | h1<;>rcases tfp (nx≤(mA marks i).mn) with h2 | h2<;>rcases p9 (mA marks i).mu ti with h3 | h3<;>simp[h1,h2,h3]) (by simp[pO])
def CL{id ti nx:Int}{held:List ajT}{marks:List Mark}{inbox:List ajT}(sm:aj7 held marks inbox):
  pK ((id,ti,nx,held,marks,inbox,()),0,())=some (if db inbox.length (nM id ti nx marks inbox) then .inr () else .inl (false,())):=
 cS (fun i=>((id,ti,nx,held,marks,inbox,()),(i:Int),())) inbox.length (nM id ti nx marks inbox) (false,()) () (fun i hi=>by
  unfold pN nM;have hl:inbox.length≤9223372036854775807:=by have:=sm.il;omega
  simp only[ak hi,bp hi,cL,dM,iF sm.ml,xZ,aqs,aG hi hl];have h4:=sgn (gH marks (nA inbox i).fr (nA inbox i).nu);rcases tfp ((nA inbox i).fr=id) with h1 | h1<;>rcases tfp (nx≤(nA inbox i).nu) with h2 | h2<;>rcases p9 (nA inbox i).un ti with h3 | h3<;>rcases tfp ((nA inbox i).to=id) with h0 | h0<;>rcases h4 with h4 | h4<;>simp[h1,h2,h0,h4,h3]) (by simp[pN])
def yl{id ti nx:Int}{held:List ajT}{marks:List Mark}{inbox:List ajT}(sm:aj7 held marks inbox):gZ ((id,ti,nx,held,marks,inbox,()),())=some ((aE ⟨id,ti,nx,held,marks,inbox⟩,()),()):=by
 unfold gZ aE;simp only[bO,dr,Dk sm.hl sm.h,Dk sm.il sm.i,RD sm.ml,RJ sm,Dw sm,Dv sm,aqs];rcases tf (isN id) with h1 | h1<;>simp only[h1,aqu,aqv,aqm,aqz,aqB,aqr];rcases tf (inB ti 0 999) with h2 | h2<;>simp only[h2,aqu,aqv,aqm,aqz,aqB,aqr];rcases tf (inB nx 1 100) with h3 | h3<;>simp only[h3,aqu,aqv,aqm,aqz,aqB,aqr];rcases p9 (held.length:Int) 6 with h4 | h4<;>rcases p9 (marks.length:Int) 12 with h5 | h5<;>rcases p9 (inbox.length:Int) 6 with h6 | h6<;>simp only[h4,h5,h6,aqn,aqo,aqm,aqz,aqV,aqB,aqr];rcases tf (dA held) with h7 | h7<;>rcases tf (ir marks) with h8 | h8<;>rcases tf (dA inbox) with h9 | h9<;>simp only[h7,h8,h9,aqu,aqv,aqm,aqz,aqV,aqB,aqr];rcases tf (db held.length (oK id ti nx held marks)) with h10 | h10<;>rcases tf (db marks.length (jL id ti nx marks)) with h11 | h11<;>rcases tf (db inbox.length (nM id ti nx marks inbox)) with h12 | h12<;>simp only[h10,h11,h12,aqm,dO,yG,aqr,Dw sm,Dv sm]<;>rfl
def x6{id ti nx:Int}{held:List ajT}{marks:List Mark}{inbox:List ajT}(sm:aj7 held marks inbox):gS ((id,ti,nx,held,marks,inbox,()),())=some ((aE ⟨id,ti,nx,held,marks,inbox⟩,()),()):=by
 unfold gS aE;simp only[dE,cQ,Bh sm.hl sm.h,Bh sm.il sm.i,NK sm.ml,Qa sm,CM sm,CL sm,aqs];rcases tf (isN id) with h1 | h1<;>simp only[h1,aqu,aqv,aqm,aqz,aqB,aqr];rcases tf (inB ti 0 999) with h2 | h2<;>simp only[h2,aqu,aqv,aqm,aqz,aqB,aqr];rcases tf (inB nx 1 100) with h3 | h3<;>simp only[h3,aqu,aqv,aqm,aqz,aqB,aqr];rcases tf (decide ((held.length:Int)≤6)&&dA held) with h7 | h7<;>rcases tf (decide ((marks.length:Int)≤12)&&ir marks) with h8 | h8<;>rcases tf (decide ((inbox.length:Int)≤6)&&dA inbox) with h9 | h9<;>simp only[h7,h8,h9,aqu,aqv,aqm,aqz,aqV,aqB,aqr];rcases tf (db held.length (oK id ti nx held marks)) with h10 | h10<;>rcases tf (db marks.length (jL id ti nx marks)) with h11 | h11<;>rcases tf (db inbox.length (nM id ti nx marks inbox)) with h12 | h12<;>simp only[h10,h11,h12,aqm,dO,yG,aqr,CM sm,CL sm]<;>rfl
def EN{α:Type}{l:List α}{d:α}(hl:l.length≤1048576):
  (if decide ((l.length:Int)=0) then some ((([]:List α),()),()) else if decide (0≤(l.length:Int))&&decide ((l.length:Int)≤4294967296) then some (((aqR (aqQ (aqy (l.length:Int)) d).length l++aq9 l.length (aqQ (aqy (l.length:Int)) d)),()),()) else none)=some ((l,()),()):=by
 by_cases h:(l.length:Int)=0
 ·have:l=[]:=aq2 (by omega);subst this;rfl
 ·have h1:(l.length:Int)≤4294967296:=by omega
  have h2:0≤(l.length:Int):=by omega
  simp[h1]
def vN{l:List ajT}(hl:l.length≤1048576):jA (l,())=some ((l,()),()):=EN hl
def Hr{l:List Mark}(hl:l.length≤1048576):oE (l,())=some ((l,()),()):=EN hl
def lu{l:List aqp}(hl:l.length≤1048576):dh (l,())=some ((l,()),()):=EN hl
def BB{id ti nx:Int}{held:List ajT}{marks:List Mark}{inbox:List ajT}(sm:aj7 held marks inbox):gk ((id,ti,nx,held,marks,inbox,()),())=some (((id,ti,nx,held,marks,inbox,()),()),()):=by
 unfold gk;simp only[vN sm.hl,Hr sm.ml,vN sm.il,aqs]
def aF{n:Nat}(h:n≤4294967296):al n=true:=by simpa[al] using h
def CC{id ti nx:Int}{held:List ajT}{marks:List Mark}{inbox:List ajT}(sm:aj7 held marks inbox):iG ((id,ti,nx,held,marks,inbox,()),())=some (((id,ti,nx,held,marks,inbox,()),()),()):=by
 unfold iG;have h1:=sm.hl;have h2:=sm.ml;have h3:=sm.il;simp only[aq0,arI,arF,aF (show held.length≤4294967296 by omega),aF (show marks.length≤4294967296 by omega),aF (show inbox.length≤4294967296 by omega),aqm]
def LX{id:Int}:mg (id,())=some ((if isN id then(id,0,1,[],[],[],()) else(0,0,0,[],[],[],()),()),()):=by
 unfold mg;simp only[dr,aqs];cases isN id<;>rfl
def K5{id:Int}:lV (id,())=some ((if isN id then(id,0,1,[],[],[],()) else(0,0,0,[],[],[],()),()),()):=by
 unfold lV;simp only[cQ,aqs];cases isN id<;>rfl
end Go.VS
end
