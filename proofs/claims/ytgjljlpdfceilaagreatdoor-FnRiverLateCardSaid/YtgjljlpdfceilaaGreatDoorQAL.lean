/- Part 12. -/
import Derived.Lib.Split
import Derived.Lib.SplitLaws
import Derived.Lib.IndexMore
import Derived.Deep.Draws
import Derived.Sort.Grow
import Derived.Test.YtgjljlpdfceilaaGreatDoorQAK
open Array renaming getElem?_append_left->Mn
open Bool renaming true->U
open Decidable renaming decide->A1
open Go.Calls renaming mono->Ms
open Go.Lib renaming TabIs->Mv,cellsOf->bQ,countB->Nn,cut->Fp,itoa->BA,pow10Tab->Nv,splitB->JD
open Go.Sort renaming grow->bH
open Go.Value renaming string->bS
open Go.World renaming cell?->Mu,drewN->pQ
open Int renaming toNat_of_nonneg->Nq
open List renaming getElem?_append_left->IT,getElem?_eq_some_iff->BP,getElem?_map->DK,getElem?_toArray->Ul
open Nat renaming le_refl->Az
open Option renaming bind_some->A9,map_eq_some_iff->DJ,none->A0,some->I
set_option linter.all false
noncomputable section
namespace Go.VS
open Go
variable {P:Program} {f:FuncId}
def oE{w:World}{O:Nat->Prop}{gm:Nat}(hgl:O3 P w O)(hg:gm<P.globals.size)(hsh:∀w:World,w.ShapedOpen P->∃m,w.cell? ⟨gm,0,A0⟩=I (.int .i64 m)):∃m,w.cell? ⟨gm,0,A0⟩=I (.int .i64 m):=by
 obtain⟨w0,h1,h2⟩:=hgl;obtain⟨m,hm⟩:=hsh w0 h1.1;refine⟨m, ?_⟩;rw[← hm];unfold Mu;rw[(h2 gm hg).2.2]
def av4{w:World}{O:Nat->Prop}(hgl:O3 P w O){gt:Nat}(hn:P.globalNamed "internal/strconv.uint64pow10" =I gt)(hg:gt<P.globals.size):Mv P w "internal/strconv.uint64pow10" .u64 Nv:=by
 obtain⟨w0,h1,h2⟩:=hgl;have h:=h1.2 (by rw[hn];simp);unfold Mv World.var? at h ⊢;rw[hn]at h ⊢;simp only[A9]at h ⊢;rw[(h2 gt hg).2.2];exact h
def VK(x:Int×A2):Option ((A4×A2)×A2):=if -9223372036854775808<=x.1/\x.1<=9223372036854775807 then I ((⟨(BA x.1).toArray⟩,()),()) else A0
def Q2(x:A4×A4×A2):Option ((A4×A4×Bool×A2)×A2):=
 if x.1.size<4294967281 then I ((⟨(Fp x.1.data.toList x.2.1.data.toList).1.toArray⟩,⟨(Fp x.1.data.toList x.2.1.data.toList).2.1.toArray⟩,(Fp x.1.data.toList x.2.1.data.toList).2.2,()),()) else A0
def V4(x:A4×A4×A2):Option ((List A4×A2)×A2):=
 if x.1.size<4294967281/\1<=x.2.1.size then I ((JD x.2.1 0 (Nn x.1 x.2.1) x.1,()),()) else A0
def UB(x:A4×A4×Int×A2):Option ((List A4×A2)×A2):=
 if x.1.size<4294967281/\1<=x.2.1.size/\1<=x.2.2.1/\x.2.2.1<=9223372036854775807 then I ((JD x.2.1 0 (min x.2.2.1.toNat (x.1.size+1) - 1) x.1,()),()) else A0
def arm(he:Ma P f)(hn:(P.globalNamed "internal/strconv.uint64pow10").map (λg=>A1<|g<P.globals.size)=I U)
  (hc:∀(n:Int) (h0: -9223372036854775808<=n) (h1:n<=9223372036854775807) (w:World) (ak:Mv P w "internal/strconv.uint64pow10" .u64 Nv),
   Calls P f #[.int .i64 n] w λe w'=>e= .returned (.string ⟨(BA n).toArray⟩)/\ ∃k os,w'=bH (w.drewN k) os):H5 P f ⟨[.int .i64],[.str],VK⟩:=by
 obtain⟨gt,hn,hg⟩:=DJ.1 hn;have hg:=BX hg;refine⟨he,λx r hx w Z args os hr hnd hbl hZ hgl=> ?_⟩;simp only[VK]at hx;split at hx
 case isFalse=>cases hx
 rename_i hb;cases hx;obtain⟨u,us,o1,o2,rfl,rfl,⟨rfl,rfl⟩,rfl,rfl⟩:=hr;refine Ms (hc x.1 hb.1 hb.2 w<|av4 hgl hn hg) ?_;rintro e w' ⟨rfl,k,os,rfl⟩;exact⟨_,rfl,⟨⟨[.string _],[],[],rfl,⟨_,_,[],[],rfl,rfl,⟨rfl,rfl⟩,rfl,rfl⟩,⟨rfl,rfl⟩,by simp[B3],by simp[B3]⟩,rfl,rfl,rfl,by simp[bH,pQ],λb hb _=>by simp[bH,pQ,Mn hb],Pk.old λb hb=>by simp[bH,pQ,Mn hb]⟩⟩
def atu(he:Ma P f){gm:Nat}(hg:gm<P.globals.size)(hsh:∀w:World,w.ShapedOpen P->∃m,w.cell? ⟨gm,0,A0⟩=I (.int .i64 m))
  (hc:∀(s sep:A4) (m:Int) (w:World) (hs:s.size<4294967281) (hm:w.cell? ⟨gm,0,A0⟩=I (.int .i64 m)),
   Calls P f #[.string s,.string sep] w λe w'=>e= .returned (.tuple #[.string ⟨(Fp s.data.toList sep.data.toList).1.toArray⟩,.string ⟨(Fp s.data.toList sep.data.toList).2.1.toArray⟩,.bool (Fp s.data.toList sep.data.toList).2.2])/\ ∃n,w'=w.drewN n):
  H5 P f ⟨[.str,.str],[.str,.str,.bool],Q2⟩:=by
 refine⟨he,λx r hx w Z args os hr hnd hbl hZ hgl=> ?_⟩;simp only[Q2]at hx;split at hx
 case isFalse=>cases hx
 rename_i hb;cases hx;obtain⟨u,us,o1,o2,rfl,rfl,⟨rfl,rfl⟩,v,vs,p1,p2,rfl,rfl,⟨rfl,rfl⟩,rfl,rfl⟩:=hr;obtain⟨m,hm⟩:=oE hgl hg hsh;refine Ms (hc x.1 x.2.1 m w hb hm) ?_;rintro e w' ⟨rfl,k,rfl⟩;exact⟨_,rfl,⟨⟨[_,_,_],[],[],rfl,⟨_,_,[],[],rfl,rfl,⟨rfl,rfl⟩,_,_,[],[],rfl,rfl,⟨rfl,rfl⟩,_,_,[],[],rfl,rfl,⟨rfl,rfl⟩,rfl,rfl⟩,⟨rfl,rfl⟩,by simp[B3],by simp[B3]⟩,rfl,rfl,rfl,Az _,λb hb _=>rfl,Pk.old λb hb=>rfl⟩⟩
def aJd{w:World}{Z:Nat->Prop}{args:List Value}{e:TypeId}{xs:List A4}{cap:Nat}{cs:Array Value}(I3:xs.length<=cap)(hm:cap<=maxLen)(hsz:cs.size=cap)(hcs:∀(i:Nat) (s:A4),xs[i]? =I s->cs[i]? =I (bS s)){ps:List Sh}
  {r2:LTs (B6 ps)}{g:LTs ps->Option (LTs [.row e .str]×LTs (B6 ps))}(hb:∀w' M,Cp P w' M (ar args) (B6 ps) r2 (KD ps args) []):
  Ret P ⟨ps,[.row e .str],g⟩ Z args [] w ((xs,()),r2) (.slice (I ⟨w.heap.size,0,A0⟩) xs.length cap) (w.alloc<|.cells cs e):=by
 have hat:(w.alloc<|.cells cs e).heap[w.heap.size]? =I (.cells cs e (0,0)):=heap_alloc_new w _;have azw:(w.alloc<|.cells cs e).heap.size=w.heap.size+1:=World.size_alloc _ _;refine⟨⟨[_],[(.slice (I ⟨w.heap.size,0,A0⟩) xs.length cap,xs.length)],[],rfl,⟨_,_,[_],[],rfl,rfl,⟨rfl,rfl,λβ _=> .inr ⟨w.heap.size,0,cap,cs,(0,0),rfl,hat,rfl,I3,hm,by simp[ks,hsz], ?_⟩⟩,rfl,rfl⟩,hb _ _,by simp[B3,HU,adr], ?_⟩,rfl,rfl,rfl,J,λb hb _=>heap_alloc_old w _ hb,Pk.old λb hb=>heap_alloc_old w _ hb⟩
 .intro i x j c u h1 h2 h3;cases j with
  | zero=>
   simp[enc]at h2;subst h2;rw[show(0:Nat)+(i * ks .str+0)=i by simp[ks],hcs i x h1]at h3;cases h3;exact RC.lit rfl
  | succ j=>simp[enc]at h2
 .intro b hb;simp[B3,HU,adr]at hb;subst hb;exact⟨.inr (Az _),J⟩
def ar8(he:Ma P f){gm:Nat}{e:TypeId}(hg:gm<P.globals.size)(hsh:∀w:World,w.ShapedOpen P->∃m,w.cell? ⟨gm,0,A0⟩=I (.int .i64 m))
  (hc:∀(s sep:A4) (m:Int) (w:World) (hs:s.size<4294967281) (hm:w.cell? ⟨gm,0,A0⟩=I (.int .i64 m)) (h1:1<=sep.size),
   Calls P f #[.string s,.string sep] w λen w'=>en= .returned (.slice (I ⟨w.heap.size,0,A0⟩) (Nn s sep+1)<|Nn s sep+1)/\w'=w.alloc (.cells ((JD sep 0 (Nn s sep) s).map bS).toArray e)):
  H5 P f ⟨[.str,.str],[.row e .str],V4⟩:=by
 refine⟨he,λx r hx w Z args os hr hnd hbl hZ hgl=> ?_⟩;simp only[V4]at hx;split at hx
 case isFalse=>cases hx
 rename_i hb;cases hx;obtain⟨u,us,o1,o2,rfl,rfl,⟨rfl,rfl⟩,v,vs,p1,p2,rfl,rfl,⟨rfl,rfl⟩,rfl,rfl⟩:=hr;obtain⟨m,hm⟩:=oE hgl hg hsh;have hl:=Lib.splitB_all x.2.1 hb.2 0 _ x.1 rfl;have hle:=Lib.countB_le x.2.1 hb.2 x.1.size x.1<|Az _;refine Ms (hc x.1 x.2.1 m w hb.1 hm hb.2) ?_;rintro en w' ⟨rfl,rfl⟩;refine⟨_,rfl, ?_⟩;rw[← hl];exact aJd (Az _) (by rw[hl];simp[maxLen];omega) (by simp) (λi s h=>by simp[h]) λ_ _=>⟨rfl,rfl⟩
def aqb(he:Ma P f){gm:Nat}{e:TypeId}(hg:gm<P.globals.size)(hsh:∀w:World,w.ShapedOpen P->∃m,w.cell? ⟨gm,0,A0⟩=I (.int .i64 m))
  (hc:∀(s sep:A4) (n:Nat) (m:Int) (w:World) (hs:s.size<4294967281) (hm:w.cell? ⟨gm,0,A0⟩=I (.int .i64 m)) (h1:1<=sep.size) (hn:1<=n) (aF7:n<=9223372036854775807),
   Calls P f #[.string s,.string sep,.int .i64 n] w λen w'=>en= .returned (.slice (I ⟨w.heap.size,0,A0⟩) (JD sep 0 (min n (s.size+1) - 1) s).length<|min n<|s.size+1)/\w'=w.alloc (.cells (bQ (JD sep 0 (min n (s.size+1) - 1) s)<|min n<|s.size+1) e)):
  H5 P f ⟨[.str,.str,.int .i64],[.row e .str],UB⟩:=by
 refine⟨he,λx r hx w Z args os hr hnd hbl hZ hgl=> ?_⟩;simp only[UB]at hx;split at hx
 case isFalse=>cases hx
 rename_i hb;cases hx;obtain⟨u,us,o1,o2,rfl,rfl,⟨rfl,rfl⟩,v,vs,p1,p2,rfl,rfl,⟨rfl,rfl⟩,y,ys,q1,q2,rfl,rfl,⟨rfl,rfl⟩,rfl,rfl⟩:=hr;obtain⟨m,hm⟩:=oE hgl hg hsh;have hl:=Lib.splitB_length_le x.2.1 0 (min x.2.2.1.toNat (x.1.size+1) - 1) x.1;have hn:((x.2.2.1.toNat:Nat):Int)=x.2.2.1:=Nq J;have hc':=hc x.1 x.2.1 x.2.2.1.toNat m w hb.1 hm hb.2.1 J J;rw[hn]at hc';refine Ms hc' ?_;rintro en w' ⟨rfl,rfl⟩;refine⟨_,rfl, ?_⟩;exact aJd J (by simp[maxLen];omega) (Lib.cellsOf_size J) (λi s h=>by
  have hi:=(BP.1 h).1;rw[bQ,Ul,IT<|by simpa using hi,DK,h];rfl) (λ_ _=>⟨rfl,rfl⟩)
end Go.VS
end
