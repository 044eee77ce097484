/- Part 18. -/
import Derived.Test.YtimdnaklfelapaaGreatDoorQAQ
open Bool renaming and_eq_true→auF,and_false→au7,eq_iff_iff→axg,false_and→auL,not_eq_true'→avw,not_false→auH,not_true→auG,or_eq_true→avo,true_and→auN
open ByteArray renaming data_extract→ax9
open Go.IntKind renaming wrap→azo
open Int renaming toNat→auK
open List renaming drop→avp,eq_nil_of_length_eq_zero→avi,getD_eq_getElem?_getD→auQ,length_nil→avf,mem_of_getElem?→au8,nil_append→avR,replicate→au0,take→au3
open Nat renaming le_refl→auS,lt_or_ge→awm,sub_self→aym,zero_add→avV,zero_le→avM
open Option renaming bind_some→auE
set_option linter.unusedVariables false
set_option linter.unusedSimpArgs false
set_option linter.defProp false
noncomputable section
namespace Go.VS
open Go
section
variable {σ ρ β γ:Type} {b:σ→Option (σ ⊕ ρ)}
def ao{x:σ}{y:ρ}(h:b x=some (.inr y)):aV b x=some y:=U2 (n:=1) (by simp[yl,h])
def aj{x x':σ}{y:ρ}(h:b x=some (.inl x'))(hy:aV b x'=some y):aV b x=some y:=by
 obtain⟨n,hn⟩:=YX hy;exact U2 (n:=n+1) (by simp[yl,h,hn])
def cy(st:Nat→σ)(n:Nat){y:ρ}(h: ∀ i,i < n→b (st i)=some (.inl (st (i+1))))(hn:b (st n)=some (.inr y)):aV b (st 0)=some y:=by
 have: ∀ k,k≤n→aV b (st (n - k))=some y:=by
  intro k
  induction k with
  | zero=>intro _;exact ao hn
  | succ k ih=>
   intro hk;refine aj (h (n - (k+1)) (by omega)) ?_;rw[show n - (k+1)+1=n - k by omega];exact ih (by omega)
 have:=this n (auS _);rwa[aym]at this
def akU(Inv:Nat→σ→Prop)(aqh:ρ→Prop)(n:Nat)(aqz: ∀ i s,i < n→Inv i s→(∃ s',b s=some (.inl s')∧Inv (i+1) s')∨(∃ r,b s=some (.inr r)∧aqh r))
  (asu: ∀ s,Inv n s→ ∃ r,b s=some (.inr r)∧aqh r){s0:σ}(h0:Inv 0 s0): ∃ r,aV b s0=some r∧aqh r:=by
 have: ∀ k,k≤n→ ∀ s,Inv (n - k) s→ ∃ r,aV b s=some r∧aqh r:=by
  intro k
  induction k with
  | zero=>
   intro _ s hs;obtain⟨r,h1,h2⟩:=asu s hs;exact⟨r,ao h1,h2⟩
  | succ k ih=>
   intro hk s hs;rcases aqz _ s (by omega) hs with⟨s',h1,h2⟩ | ⟨r,h1,h2⟩
   ·rw[show n - (k+1)+1=n - k by omega]at h2;obtain⟨r,h3,h4⟩:=ih (by omega) s' h2;exact⟨r,aj h1 h3,h4⟩
   ·exact⟨r,ao h1,h2⟩
 exact this n (auS _) s0 (by rwa[aym])
end
def FI{β:Type}(q:Nat→Option β):Nat→Nat→Option β
 | 0,_=>none
 | k+1,i=>match q i with
  | some r=>some r
  | none=>FI q k (i+1)
section
variable {σ β γ:Type} {b:σ→Option (σ ⊕ (β ⊕ γ))}
def YY(st:Nat→σ)(n:Nat)(q:Nat→Option β)(fin:γ)
  (h: ∀ i,i < n→b (st i)=some (match q i with | none=> .inl (st (i+1)) | some r=> .inr (.inl r)))
  (hn:b (st n)=some (.inr (.inr fin))):aV b (st 0)=some (match FI q n 0 with | none=> .inr fin | some r=> .inl r):=by
 have: ∀ k,k≤n→aV b (st (n - k))=some (match FI q k (n - k) with | none=> .inr fin | some r=> .inl r):=by
  intro k
  induction k with
  | zero=>intro _;exact ao hn
  | succ k ih=>
   intro hk;have h1:=h (n - (k+1)) (by omega);unfold FI;cases hq:q (n - (k+1)) with
   | some r=>rw[hq]at h1;exact ao h1
   | none=>
    rw[hq]at h1;refine aj h1 ?_;rw[show n - (k+1)+1=n - k by omega];exact ih (by omega)
 have:=this n (auS _);rwa[aym]at this
def vo(p:Nat→Bool):Nat→Nat→Bool
 | 0,_=>true
 | k+1,i=>p i&&vo p k (i+1)
def dp(n:Nat)(p:Nat→Bool):Bool:=vo p n 0
def abz{p:Nat→Bool}{r:β}: ∀ (k i:Nat),FI (fun i=>if p i then none else some r) k i=if vo p k i then none else some r
 | 0,_=>rfl
 | k+1,i=>by
  unfold FI vo;cases hp:p i
  ·simp
  ·simpa using abz k (i+1)
def dI(st:Nat→σ)(n:Nat)(p:Nat→Bool)(r:β)(fin:γ)
  (h: ∀ i,i < n→b (st i)=some (if p i then .inl (st (i+1)) else .inr (.inl r)))
  (hn:b (st n)=some (.inr (.inr fin))):aV b (st 0)=some (if dp n p then .inr fin else .inl r):=by
 rw[YY st n (fun i=>if p i then none else some r) fin (fun i hi=>by rw[h i hi];cases p i<;>rfl) hn,abz,dp];cases vo p n 0<;>rfl
def qP(n:Nat)(p:Nat→Bool):Int:=(FI (fun i=>if p i then some (i:Int) else none) n 0).getD (-1)
def aby{p:Nat→Bool}{f:Int→β}: ∀ (k i:Nat),FI (fun i=>if p i then some (f (i:Int)) else none) k i=(FI (fun i=>if p i then some (i:Int) else none) k i).map f
 | 0,_=>rfl
 | k+1,i=>by
  unfold FI;cases hp:p i
  ·simpa using aby k (i+1)
  ·simp
def On{q:Nat→Option β}{r:β}: ∀ (k i:Nat),FI q k i=some r→ ∃ j,i≤j∧j < i+k∧q j=some r∧ ∀ l,i≤l→l < j→q l=none
 | 0,_,h=>by cases h
 | k+1,i,h=>by
  unfold FI at h;split at h
  ·rename_i r' hr;cases h;exact⟨i,auS _,by omega,hr,fun l h1 h2=>by omega⟩
  ·rename_i hr;obtain⟨j,h1,h2,h3,h4⟩:=On k (i+1) h;exact⟨j,by omega,by omega,h3,fun l h5 h6=>by
    rcases awm i l with h7 | h7
    ·exact h4 l h7 h6
    ·rw[show l=i by omega];exact hr⟩
def YA{q:Nat→Option β}: ∀ (k i:Nat),FI q k i=none→ ∀ l,i≤l→l < i+k→q l=none
 | 0,_,_,l,h1,h2=>by omega
 | k+1,i,h,l,h1,h2=>by
  unfold FI at h;split at h
  ·cases h
  ·rename_i hr;rcases awm i l with h7 | h7
   ·exact YA k (i+1) h l h7 (by omega)
   ·rw[show l=i by omega];exact hr
def bZ(n:Nat)(p:Nat→Bool):(qP n p= -1∧ ∀ i,i < n→p i=false)∨ ∃ i:Nat,qP n p=i∧i < n∧p i=true∧ ∀ l,l < i→p l=false:=by
 unfold qP;cases h:FI (fun i=>if p i then some (i:Int) else none) n 0 with
 | none=>
  refine .inl ⟨rfl,fun i hi=> ?_⟩;have:=YA n 0 h i (avM _) (by omega);cases hp:p i<;>simp[hp]at this ⊢
 | some r=>
  obtain⟨j,h1,h2,h3,h4⟩:=On n 0 h;refine .inr ⟨j, ?_,by omega, ?_,fun l hl=> ?_⟩
  ·cases hp:p j<;>simp[hp]at h3;simp[h3]
  ·cases hp:p j<;>simp[hp]at h3 ⊢
  ·have:=h4 l (avM _) hl;cases hp:p l<;>simp[hp]at this ⊢
def uy(st:Nat→σ)(n:Nat)(p:Nat→Bool)(f:Int→β)(fin:γ)
  (h: ∀ i,i < n→b (st i)=some (if p i then .inr (.inl (f (i:Int))) else .inl (st (i+1))))
  (hn:b (st n)=some (.inr (.inr fin))):aV b (st 0)=some (if qP n p < 0 then .inr fin else .inl (f (qP n p))):=by
 rw[YY st n (fun i=>if p i then some (f (i:Int)) else none) fin (fun i hi=>by rw[h i hi];cases p i<;>rfl) hn,aby];rcases bZ n p with⟨h1,_⟩ | ⟨i,h1,_⟩
 ·rw[h1];unfold qP at h1;cases h2:FI (fun i=>if p i then some (i:Int) else none) n 0 with
  | none=>simp
  | some r=>
   obtain⟨j,_,_,h3,_⟩:=On n 0 h2;cases hp:p j<;>simp[hp]at h3;rw[h2]at h1;simp at h1;omega
 ·rw[h1];unfold qP at h1;cases h2:FI (fun i=>if p i then some (i:Int) else none) n 0 with
  | none=>rw[h2]at h1;simp at h1
  | some r=>
   rw[h2]at h1;simp at h1;subst h1;simp
end
def QV{p:Nat→Bool}: ∀ (k i:Nat),vo p k i=true↔ ∀ j,i≤j→j < i+k→p j=true
 | 0,_=>by simp only[vo,true_iff];intro j h1 h2;omega
 | k+1,i=>by
  unfold vo;rw[auF,QV k (i+1)];constructor
  ·rintro⟨h1,h2⟩ j h3 h4;rcases awm i j with h7 | h7
   ·exact h2 j h7 (by omega)
   ·rw[show j=i by omega];exact h1
  ·intro h;exact⟨h i (auS _) (by omega),fun j h1 h2=>h j (by omega) (by omega)⟩
def cG{n:Nat}{p:Nat→Bool}:dp n p=true↔ ∀ i,i < n→p i=true:=by
 unfold dp;rw[QV];exact⟨fun h i hi=>h i (avM _) (by omega),fun h j _ h2=>h j (by omega)⟩
def c8{A D Ω:Type}{f:A→Option Ω}{g:D→Option Ω}{y:D}:aK (some (.inr y)) f g=g y:=rfl
def Bo{A D Ω:Type}{f:A→Option Ω}{g:D→Option Ω}{y:A}:aK (some (.inl y)) f g=f y:=rfl
def aZ{X Ω:Type}{f:X→Option Ω}{y:X}:bH f (some (.inr y))=f y:=rfl
def qM{X Ω:Type}{f:X→Option Ω}{y:Ω}:bH f (some (.inl y))=some y:=rfl
def ai{n:Int}(h0: -9223372036854775808≤n)(h1:n≤9223372036854775807):w64 n=n:=by
 unfold w64;rw[IntKind.wrap_i64];omega
def Qs(n:Int):w8 n=n % 256:=by
 unfold w8 azo;simp[IntKind.signed,IntKind.bits]
def aA{i n:Nat}(h:i < n)(hn:n≤9223372036854775807):w64 ((i:Int)+1)=((i+1:Nat):Int):=by
 rw[ai (by omega) (by omega)];omega
def Kc{α:Type}(d:α)(xs:List α)(i:Nat):rd d xs (i:Int)=xs.getD i d:=rfl
def akW(i n:Nat):inb (i:Int) n=decide (i < n):=by
 unfold inb;by_cases h:i < n
 ·simp[h]
 ·simp[h]
def ak{i n:Nat}(h:i < n):inb (i:Int) n=true:=by rw[akW];simpa using h
abbrev L(s:auB):List UInt8:=s.data.toList
def ba(s:auB):(L s).length=s.size:=rfl
def qR{s t:auB}(h:L s=L t):s=t:=by
 cases s;cases t;simp[L]at h;exact congrArg _ h
def ua(s t:auB):L (s++t)=L s++L t:=by simp[L,ByteArray.data_append]
def kB(s:auB)(a b:Nat):L (s.extract a b)=((L s).drop a).take (b - a):=by
 simp[L,ax9,Array.toList_extract,List.extract_eq_take_drop]
def aB(s t:auB):(s++t).size=s.size+t.size:=ByteArray.size_append ..
def L_B(l:List UInt8):L (B l)=l:=rfl
def aW(l:List UInt8):(B l).size=l.length:=rfl
def am0(l:List UInt8):L ⟨l.toArray⟩=l:=rfl
def y0(s:auB)(i:Nat):bt s (i:Int)=(((L s).getD i 0).toNat:Int):=rfl
def anj(s:auB)(i:Int):0≤bt s i:=by unfold bt;omega
def ank(s:auB)(i:Int):bt s i≤255:=by
 unfold bt;have:=(s.data.toList.getD i.toNat 0).toNat_lt;omega
end Go.VS
namespace Go.VS
open Go
def akn(m:anA):Prop:=m.da.size≤1048576
def J8(h:anD):Prop:=h.got.length≤1048576∧ ∀ m∈h.got,akn m
def cR(k:anv):Prop:=k.log.size≤1048576∧k.anw.length≤1048576∧ ∀ h∈k.anw,J8 h
def aii(p:anB):Prop:=p.data.size≤1048576
def oM(n:anz):Prop:=n.tx.size≤1048576
def HQ{α:Type}{l:List α}{i:Nat}{x d:α}(h:l[i]? =some x):l.getD i d=x:=by simp[h]
def bD{i n:Nat}(h:i < n):decide ((i:Int) < (n:Int))=true:=by simpa using h
structure asB (ks:List anv) (ls:List Bool) (ra:List anB) (se go:List anz):Prop where
 kl:ks.length≤1048576
 k: ∀ x∈ks,cR x
 l:ls.length≤1048576
 rl:ra.length≤1048576
 r: ∀ x∈ra,aii x
 sl:se.length≤1048576
 s: ∀ x∈se,oM x
 gl:go.length≤1048576
 g: ∀ x∈go,oM x
@[simp] theorem dO (q:Bool):aX false q=true:=by cases q<;>rfl
@[simp] theorem fK (q:Bool):aX true q=q:=by cases q<;>rfl
def tf(b:Bool):b=true∨b=false:=by cases b<;>simp
def inB(n lo hi:Int):Bool:=decide (lo≤n)&&decide (n≤hi)
def ah{n lo hi:Int}:inB n lo hi=true↔lo≤n∧n≤hi:=by simp[inB]
abbrev isN(n:Int):Bool:=inB n 0 3
@[simp] theorem cm {n lo hi:Int} :aO (n,lo,hi,())=some ((inB n lo hi,()),()):=rfl
@[simp] theorem ez {n lo hi:Int} :az (n,lo,hi,())=some ((inB n lo hi,()),()):=rfl
@[simp] theorem dX {n:Int} :bJ (n,())=some ((isN n,()),()):=rfl
@[simp] theorem dG {n:Int} :bf (n,())=some ((isN n,()),()):=rfl
abbrev tin(s:auB):Bool:=dp s.size fun i=>inB (bt s i) 32 126
def Tk(s:auB):Bool:=inB s.size 1 24&&tin s
def ahT{s:auB}{i:Int}:w64 (bt s i)=bt s i:=ai (by have:=anj s i;omega) (by have:=ank s i;omega)
@[simp] theorem XB {s:auB} (hs:s.size≤1048576):gr (s,())=some ((Tk s,()),()):=by
 have h:si (s,0,())=some (if tin s then .inr (s,()) else .inl (false,())):=
  dI (fun i=>(s,(i:Int),())) s.size (fun i=>inB (bt s i) 32 126) (false,()) (s,()) (fun i hi=>by
   unfold sj;simp only[ak hi,bD hi,ahT,cm,auE,aA hi (by omega:s.size≤9223372036854775807)];cases inB (bt s i) 32 126<;>rfl) (by simp[sj])
 unfold gr;simp only[h];unfold Tk;cases tin s<;>simp[aK]
def ay(n:anz):Bool:=isN n.fr&&(isN n.to&&(inB n.nu 1 99&&(inB n.un 1 999&&Tk n.tx)))
@[simp] theorem vf {fr nu tt un:Int} {tx:auB} (hs:tx.size≤1048576):jd ((fr,nu,tt,un,tx,()),())=some ((ay ⟨fr,nu,tt,un,tx⟩,()),()):=by
 unfold jd ay;simp only[XB hs,cm,dX,auE];cases isN fr<;>cases isN tt<;>cases inB nu 1 99<;>cases inB un 1 999<;>simp[aX]
@[simp] theorem AB {fr nu tt un:Int} {tx:auB} (hs:tx.size≤1048576):lK ((fr,nu,tt,un,tx,()),())=some ((ay ⟨fr,nu,tt,un,tx⟩,()),()):=by
 have h:rA ((fr,nu,tt,un,tx,()),0,())=some (if tin tx then .inr () else .inl (false,())):=
  dI (fun i=>((fr,nu,tt,un,tx,()),(i:Int),())) tx.size (fun i=>inB (bt tx i) 32 126) (false,()) () (fun i hi=>by
   unfold rB;simp only[ak hi,bD hi,aA hi (by omega:tx.size≤9223372036854775807)];unfold inB;by_cases h1:bt tx i < 32<;>by_cases h2:126 < bt tx i<;>simp[h1,h2,aX]<;>omega) (by simp[rB])
 unfold lK ay;simp only[h,ez,dG,auE];unfold Tk;by_cases h1:(tx.size:Int) < 1<;>by_cases h2:(24:Int) < tx.size<;>cases isN fr<;>cases isN tt<;>cases inB nu 1 99<;>cases inB un 1 999<;>cases tin tx<;>simp[h1,h2,aK,inB]<;>omega
def Dd(m:Mark):Bool:=isN m.mf&&(inB m.mn 1 99&&inB m.mu 1 999)
@[simp] theorem XD {a b c:Int} :vc ((a,b,c,()),())=some ((Dd ⟨a,b,c⟩,()),()):=by
 unfold vc Dd;simp only[cm,dX,auE];cases isN a<;>cases inB b 1 99<;>simp[aX]
def bef(a b c d:Int):Bool:=decide (a < c)||(decide (a=c)&&decide (b < d))
@[simp] theorem lV {a b c d:Int} :dY (a,b,c,d,())=some ((bef a b c d,()),()):=rfl
@[simp] theorem zj {a b c d:Int} :ed (a,b,c,d,())=some ((bef a b c d,()),()):=rfl
def nA(l:List anz)(i:Nat):anz:=l.getD i (dfl .note)
def mA(l:List Mark)(i:Nat):Mark:=l.getD i (dfl .mark)
def dA(l:List anz)(i:Nat): @rd anz (dfl .note) l (i:Int)=nA l i:=rfl
def eP(l:List Mark)(i:Nat): @rd Mark (dfl .mark) l (i:Int)=mA l i:=rfl
def dB(l:List anz):Bool:=dp l.length fun i=>ay (nA l i)&&(decide (i=0)||bef (nA l (i - 1)).fr (nA l (i - 1)).nu (nA l i).fr (nA l i).nu)
def ju(l:List Mark):Bool:=dp l.length fun i=>Dd (mA l i)&&(decide (i=0)||bef (mA l (i - 1)).mf (mA l (i - 1)).mn (mA l i).mf (mA l i).mn)
def alJ{l:List anz}(h: ∀ x∈l,oM x)(i:Nat):(nA l i).tx.size≤1048576:=by
 unfold nA;cases hx:l[i]? with
 | none=>simp[hx,dfl];decide
 | some x=>
  have h1:x.tx.size≤1048576:=h x (au8 hx);rw[auQ,hx];exact h1
def Lo{i n:Nat}(h:i < n)(hn:n≤9223372036854775807):w64 ((i:Int) - 1)=(i:Int) - 1:=ai (by omega) (by omega)
def Gg{l:List anz}(hl:l.length≤1048576)(h: ∀ x∈l,oM x):nj (l,())=some ((dB l,()),()):=by
 have h:qn (l,l,(l.length:Int),0,())=some (if dB l then .inr () else .inl (false,())):=
  dI (fun i=>(l,l,(l.length:Int),(i:Int),())) l.length (fun i=>ay (nA l i)&&(decide (i=0)||bef (nA l (i - 1)).fr (nA l (i - 1)).nu (nA l i).fr (nA l i).nu)) (false,()) () (fun i hi=>by
   unfold pK;simp only[ak hi,bD hi,dA,vf (alJ h i),auE,lV,aA hi (by omega:l.length≤9223372036854775807)];cases i with
   | zero=>rcases tf (ay (nA l 0)) with h1 | h1<;>simp only[h1]<;>simp
   | succ j=>
    rw[Lo hi (by omega),show((j+1:Nat):Int) - 1=(j:Int) by omega,ak (show j < l.length by omega)];simp only[dA];rcases tf (ay (nA l (j+1))) with h1 | h1<;>rcases tf (bef (nA l j).fr (nA l j).nu (nA l (j+1)).fr (nA l (j+1)).nu) with h2 | h2<;>simp only[h1,h2]<;>simp[h2]) (by simp[pK])
 unfold nj;simp only[h];cases dB l<;>simp[aK]
def DZ{l:List anz}{aol:Int}(hl:l.length≤1048576)(h: ∀ x∈l,oM x):lp (l,aol,())=some ((decide ((l.length:Int)≤aol)&&dB l,()),()):=by
 have h:oJ (l,0,())=some (if dB l then .inr () else .inl (false,())):=
  dI (fun i=>(l,(i:Int),())) l.length (fun i=>ay (nA l i)&&(decide (i=0)||bef (nA l (i - 1)).fr (nA l (i - 1)).nu (nA l i).fr (nA l i).nu)) (false,()) () (fun i hi=>by
   unfold nK;simp only[ak hi,bD hi,dA,AB (alJ h i),auE,zj,aA hi (by omega:l.length≤9223372036854775807)];cases i with
   | zero=>rcases tf (ay (nA l 0)) with h1 | h1<;>simp only[h1]<;>simp
   | succ j=>
    rw[Lo hi (by omega),show((j+1:Nat):Int) - 1=(j:Int) by omega,ak (show j < l.length by omega)];simp only[dA];rcases tf (ay (nA l (j+1))) with h1 | h1<;>rcases tf (bef (nA l j).fr (nA l j).nu (nA l (j+1)).fr (nA l (j+1)).nu) with h2 | h2<;>simp only[h1,h2]<;>simp[h2]) (by simp[nK])
 unfold lp;simp only[h];by_cases hm:(l.length:Int)≤aol
 ·rw[show decide (aol < (l.length:Int))=false by simpa using hm];cases dB l<;>simp[aK,hm]
 ·rw[show decide (aol < (l.length:Int))=true by simpa using hm];simp[hm]
def U8{l:List Mark}(hl:l.length≤1048576):sA (l,())=some ((ju l,()),()):=by
 have h:qt (l,l,(l.length:Int),0,())=some (if ju l then .inr () else .inl (false,())):=
  dI (fun i=>(l,l,(l.length:Int),(i:Int),())) l.length (fun i=>Dd (mA l i)&&(decide (i=0)||bef (mA l (i - 1)).mf (mA l (i - 1)).mn (mA l i).mf (mA l i).mn)) (false,()) () (fun i hi=>by
   unfold pM;simp only[ak hi,bD hi,eP,XD,auE,lV,aA hi (by omega:l.length≤9223372036854775807)];cases i with
   | zero=>rcases tf (Dd (mA l 0)) with h1 | h1<;>simp only[h1]<;>simp
   | succ j=>
    rw[Lo hi (by omega),show((j+1:Nat):Int) - 1=(j:Int) by omega,ak (show j < l.length by omega)];simp only[eP];rcases tf (Dd (mA l (j+1))) with h1 | h1<;>rcases tf (bef (mA l j).mf (mA l j).mn (mA l (j+1)).mf (mA l (j+1)).mn) with h2 | h2<;>simp only[h1,h2]<;>simp[h2]) (by simp[pM])
 unfold sA;simp only[h];cases ju l<;>simp[aK]
def Q2{l:List Mark}(hl:l.length≤1048576):pD (l,())=some ((decide ((l.length:Int)≤12)&&ju l,()),()):=by
 have h:oK (l,0,())=some (if ju l then .inr () else .inl (false,())):=
  dI (fun i=>(l,(i:Int),())) l.length (fun i=>Dd (mA l i)&&(decide (i=0)||bef (mA l (i - 1)).mf (mA l (i - 1)).mn (mA l i).mf (mA l i).mn)) (false,()) () (fun i hi=>by
   unfold nL Dd;simp only[ak hi,bD hi,eP,ez,dG,auE,zj,aA hi (by omega:l.length≤9223372036854775807)];cases i with
   | zero=>rcases tf (isN (mA l 0).mf) with h1 | h1<;>rcases tf (inB (mA l 0).mn 1 99) with h2 | h2<;>rcases tf (inB (mA l 0).mu 1 999) with h3 | h3<;>simp only[h1,h2,h3]<;>simp
   | succ j=>
    rw[Lo hi (by omega),show((j+1:Nat):Int) - 1=(j:Int) by omega,ak (show j < l.length by omega)];simp only[eP];rcases tf (isN (mA l (j+1)).mf) with h1 | h1<;>rcases tf (inB (mA l (j+1)).mn 1 99) with h2 | h2<;>rcases tf (inB (mA l (j+1)).mu 1 999) with h3 | h3<;>rcases tf (bef (mA l j).mf (mA l j).mn (mA l (j+1)).mf (mA l (j+1)).mn) with h4 | h4<;>simp only[h1,h2,h3]<;>simp[h4]<;>omega) (by simp[nL])
 unfold pD;simp only[h];by_cases hm:(l.length:Int)≤12
 ·rw[show decide ((12:Int) < (l.length:Int))=false by simpa using hm];cases ju l<;>simp[aK,hm]
 ·rw[show decide ((12:Int) < (l.length:Int))=true by simpa using hm];simp[hm]
def aP(l:List anz)(f n:Int):Int:=qP l.length fun i=>decide ((nA l i).fr=f)&&decide ((nA l i).nu=n)
def eC(l:List Mark)(f n:Int):Int:=qP l.length fun i=>decide ((mA l i).mf=f)&&decide ((mA l i).mn=n)
def Bp{n:Nat}{p:Nat→Bool}:aK (some (if qP n p < 0 then(.inr ():(Int×auC) ⊕ auC) else .inl (qP n p,()))) (fun y=>some ((y.1,()),())) (fun _=>some ((-1,()),()))=some ((qP n p,()),()):=by
 rcases bZ n p with⟨h,_⟩ | ⟨i,h,_⟩
 ·rw[h];rfl
 ·rw[aur (by omega)];rfl
def fb{l:List anz}{f n:Int}(hl:l.length≤1048576):cJ (l,f,n,())=some ((aP l f n,()),()):=by
 have h:sv (f,n,l,(l.length:Int),0,())=some (if aP l f n < 0 then .inr () else .inl (aP l f n,())):=
  uy (fun i=>(f,n,l,(l.length:Int),(i:Int),())) l.length (fun i=>decide ((nA l i).fr=f)&&decide ((nA l i).nu=n)) (fun i=>(i,())) () (fun i hi=>by
   unfold sw;simp only[ak hi,bD hi,dA,aA hi (by omega:l.length≤9223372036854775807)];by_cases h1:(nA l i).fr=f<;>by_cases h2:(nA l i).nu=n<;>simp[h1,h2]) (by simp[sw])
 unfold cJ;simp only[h];exact Bp
def cD{l:List anz}{f n:Int}(hl:l.length≤1048576):bo (l,f,n,())=some ((aP l f n,()),()):=by
 have h:p9 (l,f,n,0,())=some (if aP l f n < 0 then .inr () else .inl (aP l f n,())):=
  uy (fun i=>(l,f,n,(i:Int),())) l.length (fun i=>decide ((nA l i).fr=f)&&decide ((nA l i).nu=n)) (fun i=>(i,())) () (fun i hi=>by
   unfold pF;simp only[ak hi,bD hi,dA,aA hi (by omega:l.length≤9223372036854775807)];by_cases h1:(nA l i).fr=f<;>by_cases h2:(nA l i).nu=n<;>simp[h1,h2]) (by simp[pF])
 unfold bo;simp only[h];exact Bp
def lS{l:List Mark}{f n:Int}(hl:l.length≤1048576):dK (l,f,n,())=some ((eC l f n,()),()):=by
 have h:sD (f,n,l,(l.length:Int),0,())=some (if eC l f n < 0 then .inr () else .inl (eC l f n,())):=
  uy (fun i=>(f,n,l,(l.length:Int),(i:Int),())) l.length (fun i=>decide ((mA l i).mf=f)&&decide ((mA l i).mn=n)) (fun i=>(i,())) () (fun i hi=>by
   unfold sE;simp only[ak hi,bD hi,eP,aA hi (by omega:l.length≤9223372036854775807)];by_cases h1:(mA l i).mf=f<;>by_cases h2:(mA l i).mn=n<;>simp[h1,h2]) (by simp[sE])
 unfold dK;simp only[h];exact Bp
def jK{l:List Mark}{f n:Int}(hl:l.length≤1048576):db (l,f,n,())=some ((eC l f n,()),()):=by
 have h:p8 (l,f,n,0,())=some (if eC l f n < 0 then .inr () else .inl (eC l f n,())):=
  uy (fun i=>(l,f,n,(i:Int),())) l.length (fun i=>decide ((mA l i).mf=f)&&decide ((mA l i).mn=n)) (fun i=>(i,())) () (fun i hi=>by
   unfold pE;simp only[ak hi,bD hi,eP,aA hi (by omega:l.length≤9223372036854775807)];by_cases h1:(mA l i).mf=f<;>by_cases h2:(mA l i).mn=n<;>simp[h1,h2]) (by simp[pE])
 unfold db;simp only[h];exact Bp
def oA(id:Int)(fr tt:Int):Bool:= !decide (id=tt)&&(inB id fr tt||inB id tt fr)
def Dn{id fr nu tt un:Int}{tx:auB}:sr (id,(fr,nu,tt,un,tx,()),())=some ((oA id fr tt,()),()):=by
 unfold sr oA;simp only[cm];by_cases h:id=tt<;>cases inB id fr tt<;>simp[h]
def AA{id fr nu tt un:Int}{tx:auB}:uV ((fr,nu,tt,un,tx,()),id,())=some ((oA id fr tt,()),()):=by
 unfold uV oA inB;by_cases h1:fr≤id
 ·simp only[h1,auz,auy];congr 3;rw[axg];simp;omega
 ·have e:(decide (tt < id)&&decide (id≤fr))=(!decide (id=tt)&&(decide (fr≤id)&&decide (id≤tt)||decide (tt≤id)&&decide (id≤fr))):=by
   rw[axg];simp only[auF,avo,avw,decide_eq_true_eq,decide_eq_false_iff_not];omega
  rw[← e];simp[h1]
structure anM (held:List anz) (marks:List Mark) (inbox:List anz):Prop where
 hl:held.length≤1048576
 h: ∀ x∈held,oM x
 ml:marks.length≤1048576
 il:inbox.length≤1048576
 i: ∀ x∈inbox,oM x
def lh(id ti nx:Int)(held:List anz)(marks:List Mark)(i:Nat):Bool:= !(decide ((nA held i).fr=id)&&decide (nx≤(nA held i).nu))&&(decide (ti < (nA held i).un)&&(oA id (nA held i).fr (nA held i).to&&decide (eC marks (nA held i).fr (nA held i).nu < 0)))
def lx(id ti nx:Int)(marks:List Mark)(i:Nat):Bool:=decide (ti < (mA marks i).mu)&& !(decide ((mA marks i).mf=id)&&decide (nx≤(mA marks i).mn))
def k9(id ti nx:Int)(marks:List Mark)(inbox:List anz)(i:Nat):Bool:=decide ((nA inbox i).to=id)&&(!(decide ((nA inbox i).fr=id)&&decide (nx≤(nA inbox i).nu))&&(!decide (ti < (nA inbox i).un)||decide (0≤eC marks (nA inbox i).fr (nA inbox i).nu)))
def aw(k:anE):Bool:=isN k.id&&(inB k.ti 0 999&&(inB k.nx 1 100&&((decide ((k.held.length:Int)≤6)&&dB k.held)&&((decide ((k.marks.length:Int)≤12)&&ju k.marks)&&((decide ((k.inbox.length:Int)≤6)&&dB k.inbox)&&
 (dp k.held.length (lh k.id k.ti k.nx k.held k.marks)&&(dp k.marks.length (lx k.id k.ti k.nx k.marks)&&dp k.inbox.length (k9 k.id k.ti k.nx k.marks k.inbox))))))))
def adN(l:List Mark)(f n:Int):eC l f n= -1∨0≤eC l f n:=by
 rcases bZ l.length (fun i=>decide ((mA l i).mf=f)&&decide ((mA l i).mn=n)) with⟨h,_⟩ | ⟨i,h,_⟩
 ·exact .inl h
 ·exact .inr (by unfold eC;omega)
def tfp(p:Prop):(p=True)∨(p=False):=by
 by_cases h:p
 ·exact .inl (eq_true h)
 ·exact .inr (eq_false h)
def sgn(n:Int):((n < 0)=True∧(0≤n)=False)∨((n < 0)=False∧(0≤n)=True):=by
 by_cases h:n < 0
 ·exact .inl ⟨eq_true h,eq_false (by omega)⟩
 ·exact .inr ⟨eq_false h,eq_true (by omega)⟩
def sb(a b:Int):((a≤b)=True∧(b < a)=False)∨((a≤b)=False∧(b < a)=True):=by
 by_cases h:a≤b
 ·exact .inl ⟨eq_true h,eq_false (by omega)⟩
 ·exact .inr ⟨eq_false h,eq_true (by omega)⟩
def Kk(l:List anz)(f n:Int):aP l f n= -1∨0≤aP l f n:=by
 rcases bZ l.length (fun i=>decide ((nA l i).fr=f)&&decide ((nA l i).nu=n)) with⟨h,_⟩ | ⟨i,h,_⟩
 ·exact .inl h
 ·exact .inr (by unfold aP;omega)
def Vd{id ti nx:Int}{held:List anz}{marks:List Mark}{inbox:List anz}(sm:anM held marks inbox):
  s9 ((id,ti,nx,held,marks,inbox,()),held,(held.length:Int),0,())=some (if dp held.length (lh id ti nx held marks) then .inr ((id,ti,nx,held,marks,inbox,()),()) else .inl (false,())):=
 dI (fun i=>((id,ti,nx,held,marks,inbox,()),held,(held.length:Int),(i:Int),())) held.length (lh id ti nx held marks) (false,()) ((id,ti,nx,held,marks,inbox,()),()) (fun i hi=>by
  unfold tc lh;have hl:held.length≤9223372036854775807:=by have:=sm.hl;omega
  simp only[ak hi,bD hi,dA,eP,lS sm.ml,Dn,auE,aA hi hl];have h4:=sgn (eC marks (nA held i).fr (nA held i).nu);rcases tfp ((nA held i).fr=id) with h1 | h1<;>rcases tfp (nx≤(nA held i).nu) with h2 | h2<;>rcases sb (nA held i).un ti with h3 | h3<;>rcases h4 with h4 | h4<;>rcases tf (oA id (nA held i).fr (nA held i).to) with h5 | h5<;>simp[h1,h2,h5,h4,h3]) (by simp[tc])
def Gr{id ti nx:Int}{held:List anz}{marks:List Mark}{inbox:List anz}(sm:anM held marks inbox):
  s8 ((id,ti,nx,held,marks,inbox,()),marks,(marks.length:Int),0,())=some (if dp marks.length (lx id ti nx marks) then .inr ((id,ti,nx,held,marks,inbox,()),()) else .inl (false,())):=
 dI (fun i=>((id,ti,nx,held,marks,inbox,()),marks,(marks.length:Int),(i:Int),())) marks.length (lx id ti nx marks) (false,()) ((id,ti,nx,held,marks,inbox,()),()) (fun i hi=>by
  unfold tb lx;have hl:marks.length≤9223372036854775807:=by have:=sm.ml;omega
  simp only[ak hi,bD hi,dA,eP,lS sm.ml,Dn,auE,aA hi hl];rcases tfp ((mA marks i).mf=id) with h1 | h1<;>rcases tfp (nx≤(mA marks i).mn) with h2 | h2<;>rcases sb (mA marks i).mu ti with h3 | h3<;>simp[h1,h2,h3]) (by simp[tb])
def Gq{id ti nx:Int}{held:List anz}{marks:List Mark}{inbox:List anz}(sm:anM held marks inbox):
  sZ ((id,ti,nx,held,marks,inbox,()),inbox,(inbox.length:Int),0,())=some (if dp inbox.length (k9 id ti nx marks inbox) then .inr () else .inl (false,())):=
 dI (fun i=>((id,ti,nx,held,marks,inbox,()),inbox,(inbox.length:Int),(i:Int),())) inbox.length (k9 id ti nx marks inbox) (false,()) () (fun i hi=>by
  unfold ta k9;have hl:inbox.length≤9223372036854775807:=by have:=sm.il;omega
  simp only[ak hi,bD hi,dA,eP,lS sm.ml,Dn,auE,aA hi hl];have h4:=sgn (eC marks (nA inbox i).fr (nA inbox i).nu);rcases tfp ((nA inbox i).fr=id) with h1 | h1<;>rcases tfp (nx≤(nA inbox i).nu) with h2 | h2<;>rcases sb (nA inbox i).un ti with h3 | h3<;>rcases tfp ((nA inbox i).to=id) with h0 | h0<;>rcases h4 with h4 | h4<;>simp[h1,h2,h0,h4,h3]) (by simp[ta])
def TB{id ti nx:Int}{held:List anz}{marks:List Mark}{inbox:List anz}(sm:anM held marks inbox):
  rL ((id,ti,nx,held,marks,inbox,()),0,())=some (if dp held.length (lh id ti nx held marks) then .inr ((id,ti,nx,held,marks,inbox,()),()) else .inl (false,())):=
 dI (fun i=>((id,ti,nx,held,marks,inbox,()),(i:Int),())) held.length (lh id ti nx held marks) (false,()) ((id,ti,nx,held,marks,inbox,()),()) (fun i hi=>by
  unfold rO lh;have hl:held.length≤9223372036854775807:=by have:=sm.hl;omega
  simp only[ak hi,bD hi,dA,eP,jK sm.ml,AA,auE,aA hi hl];have h4:=sgn (eC marks (nA held i).fr (nA held i).nu);rcases tfp ((nA held i).fr=id) with h1 | h1<;>rcases tfp (nx≤(nA held i).nu) with h2 | h2<;>rcases sb (nA held i).un ti with h3 | h3<;>rcases h4 with h4 | h4<;>rcases tf (oA id (nA held i).fr (nA held i).to) with h5 | h5<;>simp[h1,h2,h5,h4,h3]) (by simp[rO])
def FF{id ti nx:Int}{held:List anz}{marks:List Mark}{inbox:List anz}(sm:anM held marks inbox):
  rK ((id,ti,nx,held,marks,inbox,()),0,())=some (if dp marks.length (lx id ti nx marks) then .inr ((id,ti,nx,held,marks,inbox,()),()) else .inl (false,())):=
 dI (fun i=>((id,ti,nx,held,marks,inbox,()),(i:Int),())) marks.length (lx id ti nx marks) (false,()) ((id,ti,nx,held,marks,inbox,()),()) (fun i hi=>by
  unfold rN lx;have hl:marks.length≤9223372036854775807:=by have:=sm.ml;omega
  simp only[ak hi,bD hi,dA,eP,jK sm.ml,AA,auE,aA hi hl];rcases tfp ((mA marks i).mf=id) with h1 | h1<;>rcases tfp (nx≤(mA marks i).mn) with h2 | h2<;>rcases sb (mA marks i).mu ti with h3 | h3<;>simp[h1,h2,h3]) (by simp[rN])
def FE{id ti nx:Int}{held:List anz}{marks:List Mark}{inbox:List anz}(sm:anM held marks inbox):
  rJ ((id,ti,nx,held,marks,inbox,()),0,())=some (if dp inbox.length (k9 id ti nx marks inbox) then .inr () else .inl (false,())):=
 dI (fun i=>((id,ti,nx,held,marks,inbox,()),(i:Int),())) inbox.length (k9 id ti nx marks inbox) (false,()) () (fun i hi=>by
  unfold rM k9;have hl:inbox.length≤9223372036854775807:=by have:=sm.il;omega
  simp only[ak hi,bD hi,dA,eP,jK sm.ml,AA,auE,aA hi hl];have h4:=sgn (eC marks (nA inbox i).fr (nA inbox i).nu);rcases tfp ((nA inbox i).fr=id) with h1 | h1<;>rcases tfp (nx≤(nA inbox i).nu) with h2 | h2<;>rcases sb (nA inbox i).un ti with h3 | h3<;>rcases tfp ((nA inbox i).to=id) with h0 | h0<;>rcases h4 with h4 | h4<;>simp[h1,h2,h0,h4,h3]) (by simp[rM])
def A1{id ti nx:Int}{held:List anz}{marks:List Mark}{inbox:List anz}(sm:anM held marks inbox):je ((id,ti,nx,held,marks,inbox,()),())=some ((aw ⟨id,ti,nx,held,marks,inbox⟩,()),()):=by
 unfold je aw;simp only[cm,dX,Gg sm.hl sm.h,Gg sm.il sm.i,U8 sm.ml,Vd sm,Gr sm,Gq sm,auE];rcases tf (isN id) with h1 | h1<;>simp only[h1,auG,auH,auy,auL,auN,auD];rcases tf (inB ti 0 999) with h2 | h2<;>simp only[h2,auG,auH,auy,auL,auN,auD];rcases tf (inB nx 1 100) with h3 | h3<;>simp only[h3,auG,auH,auy,auL,auN,auD];rcases sb (held.length:Int) 6 with h4 | h4<;>rcases sb (marks.length:Int) 12 with h5 | h5<;>rcases sb (inbox.length:Int) 6 with h6 | h6<;>simp only[h4,h5,h6,auz,auA,auy,auL,au7,auN,auD];rcases tf (dB held) with h7 | h7<;>rcases tf (ju marks) with h8 | h8<;>rcases tf (dB inbox) with h9 | h9<;>simp only[h7,h8,h9,auG,auH,auy,auL,au7,auN,auD];rcases tf (dp held.length (lh id ti nx held marks)) with h10 | h10<;>rcases tf (dp marks.length (lx id ti nx marks)) with h11 | h11<;>rcases tf (dp inbox.length (k9 id ti nx marks inbox)) with h12 | h12<;>simp only[h10,h11,h12,auy,c8,Bo,auD,Gr sm,Gq sm]<;>rfl
def AE{id ti nx:Int}{held:List anz}{marks:List Mark}{inbox:List anz}(sm:anM held marks inbox):iV ((id,ti,nx,held,marks,inbox,()),())=some ((aw ⟨id,ti,nx,held,marks,inbox⟩,()),()):=by
 unfold iV aw;simp only[ez,dG,DZ sm.hl sm.h,DZ sm.il sm.i,Q2 sm.ml,TB sm,FF sm,FE sm,auE];rcases tf (isN id) with h1 | h1<;>simp only[h1,auG,auH,auy,auL,auN,auD];rcases tf (inB ti 0 999) with h2 | h2<;>simp only[h2,auG,auH,auy,auL,auN,auD];rcases tf (inB nx 1 100) with h3 | h3<;>simp only[h3,auG,auH,auy,auL,auN,auD];rcases tf (decide ((held.length:Int)≤6)&&dB held) with h7 | h7<;>rcases tf (decide ((marks.length:Int)≤12)&&ju marks) with h8 | h8<;>rcases tf (decide ((inbox.length:Int)≤6)&&dB inbox) with h9 | h9<;>simp only[h7,h8,h9,auG,auH,auy,auL,au7,auN,auD];rcases tf (dp held.length (lh id ti nx held marks)) with h10 | h10<;>rcases tf (dp marks.length (lx id ti nx marks)) with h11 | h11<;>rcases tf (dp inbox.length (k9 id ti nx marks inbox)) with h12 | h12<;>simp only[h10,h11,h12,auy,c8,Bo,auD,FF sm,FE sm]<;>rfl
def HW{α:Type}{l:List α}{d:α}(hl:l.length≤1048576):
  (if decide ((l.length:Int)=0) then some ((([]:List α),()),()) else if decide (0≤(l.length:Int))&&decide ((l.length:Int)≤4294967296) then some (((au3 (au0 (auK (l.length:Int)) d).length l++avp l.length (au0 (auK (l.length:Int)) d)),()),()) else none)=some ((l,()),()):=by
 by_cases h:(l.length:Int)=0
 ·have:l=[]:=avi (by omega);subst this;rfl
 ·have h1:(l.length:Int)≤4294967296:=by omega
  have h2:0≤(l.length:Int):=by omega
  simp[h1]
def yo{l:List anz}(hl:l.length≤1048576):lb (l,())=some ((l,()),()):=HW hl
def KC{l:List Mark}(hl:l.length≤1048576):qu (l,())=some ((l,()),()):=HW hl
def np{l:List auB}(hl:l.length≤1048576):dS (l,())=some ((l,()),()):=HW hl
def Ej{id ti nx:Int}{held:List anz}{marks:List Mark}{inbox:List anz}(sm:anM held marks inbox):im ((id,ti,nx,held,marks,inbox,()),())=some (((id,ti,nx,held,marks,inbox,()),()),()):=by
 unfold im;simp only[yo sm.hl,KC sm.ml,yo sm.il,auE]
def aH{n:Nat}(h:n≤4294967296):an n=true:=by simpa[an] using h
def Fs{id ti nx:Int}{held:List anz}{marks:List Mark}{inbox:List anz}(sm:anM held marks inbox):jL ((id,ti,nx,held,marks,inbox,()),())=some (((id,ti,nx,held,marks,inbox,()),()),()):=by
 unfold jL;have h1:=sm.hl;have h2:=sm.ml;have h3:=sm.il;simp only[avf,avV,avR,aH (show held.length≤4294967296 by omega),aH (show marks.length≤4294967296 by omega),aH (show inbox.length≤4294967296 by omega),auy]
def Pd{id:Int}:oe (id,())=some ((if isN id then(id,0,1,[],[],[],()) else(0,0,0,[],[],[],()),()),()):=by
 unfold oe;simp only[dX,auE];cases isN id<;>rfl
def Ok{id:Int}:nR (id,())=some ((if isN id then(id,0,1,[],[],[],()) else(0,0,0,[],[],[],()),()),()):=by
 unfold nR;simp only[dG,auE];cases isN id<;>rfl
end Go.VS
end
