/- Part 12. -/
import Derived.Lib.Split
import Derived.Lib.SplitLaws
import Derived.Lib.IndexMore
import Derived.Deep.Draws
import Derived.Sort.Grow
import Derived.Test.YtplahhbealfpcaaGreatDoorQAK
open Array renaming getElem?_append_left->M0
open Bool renaming true->A0
open Decidable renaming decide->A1
open Go.Calls renaming mono->M9
open Go.Lib renaming TabIs->M8,cellsOf->Yn,countB->NL,cut->FH,itoa->B6,pow10Tab->NN,splitB->Ih
open Go.Sort renaming grow->Yf
open Go.Value renaming string->Yq
open Go.World renaming cell?->M7,drewN->lO
open Int renaming toNat_of_nonneg->NI
open List renaming getElem?_append_left->I9,getElem?_eq_some_iff->BL,getElem?_map->D2,getElem?_toArray->TS
open Nat renaming le_refl->As
open Option renaming bind_some->A9,map_eq_some_iff->D4,none->U,some->I
set_option linter.all false
noncomputable section
namespace Go.VS
open Go
variable {P:Program} {f:FuncId}
def jv{w:World}{O:Nat->Prop}{gm:Nat}(hgl:Na P w O)(hg:gm<P.globals.size)(hsh:∀w:World,w.ShapedOpen P->∃m,w.cell? ⟨gm,0,U⟩=I (.int .i64 m)):∃m,w.cell? ⟨gm,0,U⟩=I (.int .i64 m):=by
 obtain⟨w0,h1,h2⟩:=hgl;obtain⟨m,hm⟩:=hsh w0 h1.1;refine⟨m, ?_⟩;rw[← hm];unfold M7;rw[(h2 gm hg).2.2]
def at5{w:World}{O:Nat->Prop}(hgl:Na P w O){gt:Nat}(hn:P.globalNamed "internal/strconv.uint64pow10" =I gt)(hg:gt<P.globals.size):M8 P w "internal/strconv.uint64pow10" .u64 NN:=by
 obtain⟨w0,h1,h2⟩:=hgl;have h:=h1.2 (by rw[hn];simp);unfold M8 World.var? at h ⊢;rw[hn]at h ⊢;simp only[A9]at h ⊢;rw[(h2 gt hg).2.2];exact h
def To(x:Int×A2):Option ((A4×A2)×A2):=if -9223372036854775808<=x.1/\x.1<=9223372036854775807 then I ((⟨(B6 x.1).toArray⟩,()),()) else U
def PI(x:A4×A4×A2):Option ((A4×A4×Bool×A2)×A2):=
 if x.1.size<4294967281 then I ((⟨(FH x.1.data.toList x.2.1.data.toList).1.toArray⟩,⟨(FH x.1.data.toList x.2.1.data.toList).2.1.toArray⟩,(FH x.1.data.toList x.2.1.data.toList).2.2,()),()) else U
def TA(x:A4×A4×A2):Option ((List A4×A2)×A2):=
 if x.1.size<4294967281/\1<=x.2.1.size then I ((Ih x.2.1 0 (NL x.1 x.2.1) x.1,()),()) else U
def Sr(x:A4×A4×Int×A2):Option ((List A4×A2)×A2):=
 if x.1.size<4294967281/\1<=x.2.1.size/\1<=x.2.2.1/\x.2.2.1<=9223372036854775807 then I ((Ih x.2.1 0 (min x.2.2.1.toNat (x.1.size+1) - 1) x.1,()),()) else U
def ar4(he:Lk P f)(hn:(P.globalNamed "internal/strconv.uint64pow10").map (λg=>A1<|g<P.globals.size)=I A0)
  (hc:∀(n:Int) (h0: -9223372036854775808<=n) (h1:n<=9223372036854775807) (w:World) (Zu:M8 P w "internal/strconv.uint64pow10" .u64 NN),
   Calls P f #[.int .i64 n] w λe w'=>e= .returned (.string ⟨(B6 n).toArray⟩)/\ ∃k os,w'=Yf (w.drewN k) os):Gs P f ⟨[.int .i64],[.str],To⟩:=by
 obtain⟨gt,hn,hg⟩:=D4.1 hn;have hg:=BX hg;refine⟨he,λx r hx w Z args os hr hnd hbl hZ hgl=> ?_⟩;simp only[To]at hx;split at hx
 case isFalse=>cases hx
 rename_i hb;cases hx;obtain⟨u,us,o1,o2,rfl,rfl,⟨rfl,rfl⟩,rfl,rfl⟩:=hr;refine M9 (hc x.1 hb.1 hb.2 w<|at5 hgl hn hg) ?_;rintro e w' ⟨rfl,k,os,rfl⟩;exact⟨_,rfl,⟨⟨[.string _],[],[],rfl,⟨_,_,[],[],rfl,rfl,⟨rfl,rfl⟩,rfl,rfl⟩,⟨rfl,rfl⟩,by simp[Az],by simp[Az]⟩,rfl,rfl,rfl,by simp[Yf,lO],λb hb _=>by simp[Yf,lO,M0 hb],Pk.old λb hb=>by simp[Yf,lO,M0 hb]⟩⟩
def asX(he:Lk P f){gm:Nat}(hg:gm<P.globals.size)(hsh:∀w:World,w.ShapedOpen P->∃m,w.cell? ⟨gm,0,U⟩=I (.int .i64 m))
  (hc:∀(s sep:A4) (m:Int) (w:World) (hs:s.size<4294967281) (hm:w.cell? ⟨gm,0,U⟩=I (.int .i64 m)),
   Calls P f #[.string s,.string sep] w λe w'=>e= .returned (.tuple #[.string ⟨(FH s.data.toList sep.data.toList).1.toArray⟩,.string ⟨(FH s.data.toList sep.data.toList).2.1.toArray⟩,.bool (FH s.data.toList sep.data.toList).2.2])/\ ∃n,w'=w.drewN n):
  Gs P f ⟨[.str,.str],[.str,.str,.bool],PI⟩:=by
 refine⟨he,λx r hx w Z args os hr hnd hbl hZ hgl=> ?_⟩;simp only[PI]at hx;split at hx
 case isFalse=>cases hx
 rename_i hb;cases hx;obtain⟨u,us,o1,o2,rfl,rfl,⟨rfl,rfl⟩,v,vs,p1,p2,rfl,rfl,⟨rfl,rfl⟩,rfl,rfl⟩:=hr;obtain⟨m,hm⟩:=jv hgl hg hsh;refine M9 (hc x.1 x.2.1 m w hb hm) ?_;rintro e w' ⟨rfl,k,rfl⟩;exact⟨_,rfl,⟨⟨[_,_,_],[],[],rfl,⟨_,_,[],[],rfl,rfl,⟨rfl,rfl⟩,_,_,[],[],rfl,rfl,⟨rfl,rfl⟩,_,_,[],[],rfl,rfl,⟨rfl,rfl⟩,rfl,rfl⟩,⟨rfl,rfl⟩,by simp[Az],by simp[Az]⟩,rfl,rfl,rfl,As _,λb hb _=>rfl,Pk.old λb hb=>rfl⟩⟩
def aaI{w:World}{Z:Nat->Prop}{args:List Value}{e:TypeId}{xs:List A4}{cap:Nat}{cs:Array Value}(Hh:xs.length<=cap)(hm:cap<=maxLen)(hsz:cs.size=cap)(hcs:∀(i:Nat) (s:A4),xs[i]? =I s->cs[i]? =I (Yq s)){ps:List Sh}
  {r2:LTs (B1 ps)}{g:LTs ps->Option (LTs [.row e .str]×LTs (B1 ps))}(hb:∀w' M,CX P w' M (ar args) (B1 ps) r2 (Jg ps args) []):
  Ret P ⟨ps,[.row e .str],g⟩ Z args [] w ((xs,()),r2) (.slice (I ⟨w.heap.size,0,U⟩) xs.length cap) (w.alloc<|.cells cs e):=by
 have hat:(w.alloc<|.cells cs e).heap[w.heap.size]? =I (.cells cs e (0,0)):=heap_alloc_new w _;have aEK:(w.alloc<|.cells cs e).heap.size=w.heap.size+1:=World.size_alloc _ _;refine⟨⟨[_],[(.slice (I ⟨w.heap.size,0,U⟩) xs.length cap,xs.length)],[],rfl,⟨_,_,[_],[],rfl,rfl,⟨rfl,rfl,λβ _=> .inr ⟨w.heap.size,0,cap,cs,(0,0),rfl,hat,rfl,Hh,hm,by simp[ks,hsz], ?_⟩⟩,rfl,rfl⟩,hb _ _,by simp[Az,HH,adr], ?_⟩,rfl,rfl,rfl,J,λb hb _=>heap_alloc_old w _ hb,Pk.old λb hb=>heap_alloc_old w _ hb⟩
 .intro i x j c u h1 h2 h3;cases j with
  | zero=>
   simp[enc]at h2;subst h2;rw[show(0:Nat)+(i * ks .str+0)=i by simp[ks],hcs i x h1]at h3;cases h3;exact RC.lit rfl
  | succ j=>simp[enc]at h2
 .intro b hb;simp[Az,HH,adr]at hb;subst hb;exact⟨.inr (As _),J⟩
def apX(he:Lk P f){gm:Nat}{e:TypeId}(hg:gm<P.globals.size)(hsh:∀w:World,w.ShapedOpen P->∃m,w.cell? ⟨gm,0,U⟩=I (.int .i64 m))
  (hc:∀(s sep:A4) (m:Int) (w:World) (hs:s.size<4294967281) (hm:w.cell? ⟨gm,0,U⟩=I (.int .i64 m)) (h1:1<=sep.size),
   Calls P f #[.string s,.string sep] w λen w'=>en= .returned (.slice (I ⟨w.heap.size,0,U⟩) (NL s sep+1)<|NL s sep+1)/\w'=w.alloc (.cells ((Ih sep 0 (NL s sep) s).map Yq).toArray e)):
  Gs P f ⟨[.str,.str],[.row e .str],TA⟩:=by
 refine⟨he,λx r hx w Z args os hr hnd hbl hZ hgl=> ?_⟩;simp only[TA]at hx;split at hx
 case isFalse=>cases hx
 rename_i hb;cases hx;obtain⟨u,us,o1,o2,rfl,rfl,⟨rfl,rfl⟩,v,vs,p1,p2,rfl,rfl,⟨rfl,rfl⟩,rfl,rfl⟩:=hr;obtain⟨m,hm⟩:=jv hgl hg hsh;have hl:=Lib.splitB_all x.2.1 hb.2 0 _ x.1 rfl;have hle:=Lib.countB_le x.2.1 hb.2 x.1.size x.1<|As _;refine M9 (hc x.1 x.2.1 m w hb.1 hm hb.2) ?_;rintro en w' ⟨rfl,rfl⟩;refine⟨_,rfl, ?_⟩;rw[← hl];exact aaI (As _) (by rw[hl];simp[maxLen];omega) (by simp) (λi s h=>by simp[h]) λ_ _=>⟨rfl,rfl⟩
def apM(he:Lk P f){gm:Nat}{e:TypeId}(hg:gm<P.globals.size)(hsh:∀w:World,w.ShapedOpen P->∃m,w.cell? ⟨gm,0,U⟩=I (.int .i64 m))
  (hc:∀(s sep:A4) (n:Nat) (m:Int) (w:World) (hs:s.size<4294967281) (hm:w.cell? ⟨gm,0,U⟩=I (.int .i64 m)) (h1:1<=sep.size) (hn:1<=n) (acB:n<=9223372036854775807),
   Calls P f #[.string s,.string sep,.int .i64 n] w λen w'=>en= .returned (.slice (I ⟨w.heap.size,0,U⟩) (Ih sep 0 (min n (s.size+1) - 1) s).length<|min n<|s.size+1)/\w'=w.alloc (.cells (Yn (Ih sep 0 (min n (s.size+1) - 1) s)<|min n<|s.size+1) e)):
  Gs P f ⟨[.str,.str,.int .i64],[.row e .str],Sr⟩:=by
 refine⟨he,λx r hx w Z args os hr hnd hbl hZ hgl=> ?_⟩;simp only[Sr]at hx;split at hx
 case isFalse=>cases hx
 rename_i hb;cases hx;obtain⟨u,us,o1,o2,rfl,rfl,⟨rfl,rfl⟩,v,vs,p1,p2,rfl,rfl,⟨rfl,rfl⟩,y,ys,q1,q2,rfl,rfl,⟨rfl,rfl⟩,rfl,rfl⟩:=hr;obtain⟨m,hm⟩:=jv hgl hg hsh;have hl:=Lib.splitB_length_le x.2.1 0 (min x.2.2.1.toNat (x.1.size+1) - 1) x.1;have hn:((x.2.2.1.toNat:Nat):Int)=x.2.2.1:=NI J;have hc':=hc x.1 x.2.1 x.2.2.1.toNat m w hb.1 hm hb.2.1 J J;rw[hn]at hc';refine M9 hc' ?_;rintro en w' ⟨rfl,rfl⟩;refine⟨_,rfl, ?_⟩;exact aaI J (by simp[maxLen];omega) (Lib.cellsOf_size J) (λi s h=>by
  have hi:=(BL.1 h).1;rw[Yn,TS,I9<|by simpa using hi,D2,h];rfl) (λ_ _=>⟨rfl,rfl⟩)
end Go.VS
end
