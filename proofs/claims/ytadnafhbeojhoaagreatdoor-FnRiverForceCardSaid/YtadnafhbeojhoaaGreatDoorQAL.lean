/- Part 12. -/
import Derived.Lib.Split
import Derived.Lib.SplitLaws
import Derived.Lib.IndexMore
import Derived.Deep.Draws
import Derived.Sort.Grow
import Derived.Test.YtadnafhbeojhoaaGreatDoorQAK
open Array renaming getElem?_append_left->MQ
open Bool renaming true->A1
open Decidable renaming decide->A0
open Go.Calls renaming mono->Lp
open Go.Lib renaming TabIs->M0,cellsOf->ae,countB->Mv,cut->FV,itoa->BB,pow10Tab->O3,splitB->J9
open Go.Sort renaming grow->Wa
open Go.Value renaming string->Zv
open Go.World renaming cell?->Lw,drewN->mi
open Int renaming toNat_of_nonneg->kM
open List renaming getElem?_append_left->G0,getElem?_eq_some_iff->BP,getElem?_map->DE,getElem?_toArray->UQ
open Nat renaming le_refl->As
open Option renaming bind_some->A9,map_eq_some_iff->DL,none->U,some->I
set_option linter.all false
noncomputable section
namespace Go.VS
open Go
variable {P:Program} {f:FuncId}
def jz{w:World}{O:Nat->Prop}{gm:Nat}(hgl:NB P w O)(hg:gm<P.globals.size)(hsh:∀w:World,w.ShapedOpen P->∃m,w.cell? ⟨gm,0,U⟩=I (.int .i64 m)):∃m,w.cell? ⟨gm,0,U⟩=I (.int .i64 m):=by
 obtain⟨w0,h1,h2⟩:=hgl;obtain⟨m,hm⟩:=hsh w0 h1.1;refine⟨m, ?_⟩;rw[← hm];unfold Lw;rw[(h2 gm hg).2.2]
def anx{w:World}{O:Nat->Prop}(hgl:NB P w O){gt:Nat}(hn:P.globalNamed "internal/strconv.uint64pow10" =I gt)(hg:gt<P.globals.size):M0 P w "internal/strconv.uint64pow10" .u64 O3:=by
 obtain⟨w0,h1,h2⟩:=hgl;have h:=h1.2 (by rw[hn];simp);unfold M0 World.var? at h ⊢;rw[hn]at h ⊢;simp only[A9]at h ⊢;rw[(h2 gt hg).2.2];exact h
def Tk(x:Int×A2):Option ((A4×A2)×A2):=if -9223372036854775808<=x.1/\x.1<=9223372036854775807 then I ((⟨(BB x.1).toArray⟩,()),()) else U
def OQ(x:A4×A4×A2):Option ((A4×A4×Bool×A2)×A2):=
 if x.1.size<4294967281 then I ((⟨(FV x.1.data.toList x.2.1.data.toList).1.toArray⟩,⟨(FV x.1.data.toList x.2.1.data.toList).2.1.toArray⟩,(FV x.1.data.toList x.2.1.data.toList).2.2,()),()) else U
def V2(x:A4×A4×A2):Option ((List A4×A2)×A2):=
 if x.1.size<4294967281/\1<=x.2.1.size then I ((J9 x.2.1 0 (Mv x.1 x.2.1) x.1,()),()) else U
def Vf(x:A4×A4×Int×A2):Option ((List A4×A2)×A2):=
 if x.1.size<4294967281/\1<=x.2.1.size/\1<=x.2.2.1/\x.2.2.1<=9223372036854775807 then I ((J9 x.2.1 0 (min x.2.2.1.toNat (x.1.size+1) - 1) x.1,()),()) else U
def awu(he:MI P f)(hn:(P.globalNamed "internal/strconv.uint64pow10").map (λg=>A0<|g<P.globals.size)=I A1)
  (hc:∀(n:Int) (h0: -9223372036854775808<=n) (h1:n<=9223372036854775807) (w:World) (ft:M0 P w "internal/strconv.uint64pow10" .u64 O3),
   Calls P f #[.int .i64 n] w λe w'=>e= .returned (.string ⟨(BB n).toArray⟩)/\ ∃k os,w'=Wa (w.drewN k) os):Gt P f ⟨[.int .i64],[.str],Tk⟩:=by
 obtain⟨gt,hn,hg⟩:=DL.1 hn;have hg:=BT hg;refine⟨he,λx r hx w Z args os hr hnd hbl hZ hgl=> ?_⟩;simp only[Tk]at hx;split at hx
 case isFalse=>cases hx
 rename_i hb;cases hx;obtain⟨u,us,o1,o2,rfl,rfl,⟨rfl,rfl⟩,rfl,rfl⟩:=hr;refine Lp (hc x.1 hb.1 hb.2 w<|anx hgl hn hg) ?_;rintro e w' ⟨rfl,k,os,rfl⟩;exact⟨_,rfl,⟨⟨[.string _],[],[],rfl,⟨_,_,[],[],rfl,rfl,⟨rfl,rfl⟩,rfl,rfl⟩,⟨rfl,rfl⟩,by simp[Az],by simp[Az]⟩,rfl,rfl,rfl,by simp[Wa,mi],λb hb _=>by simp[Wa,mi,MQ hb],Pk.old λb hb=>by simp[Wa,mi,MQ hb]⟩⟩
def ax0(he:MI P f){gm:Nat}(hg:gm<P.globals.size)(hsh:∀w:World,w.ShapedOpen P->∃m,w.cell? ⟨gm,0,U⟩=I (.int .i64 m))
  (hc:∀(s sep:A4) (m:Int) (w:World) (hs:s.size<4294967281) (hm:w.cell? ⟨gm,0,U⟩=I (.int .i64 m)),
   Calls P f #[.string s,.string sep] w λe w'=>e= .returned (.tuple #[.string ⟨(FV s.data.toList sep.data.toList).1.toArray⟩,.string ⟨(FV s.data.toList sep.data.toList).2.1.toArray⟩,.bool (FV s.data.toList sep.data.toList).2.2])/\ ∃n,w'=w.drewN n):
  Gt P f ⟨[.str,.str],[.str,.str,.bool],OQ⟩:=by
 refine⟨he,λx r hx w Z args os hr hnd hbl hZ hgl=> ?_⟩;simp only[OQ]at hx;split at hx
 case isFalse=>cases hx
 rename_i hb;cases hx;obtain⟨u,us,o1,o2,rfl,rfl,⟨rfl,rfl⟩,v,vs,p1,p2,rfl,rfl,⟨rfl,rfl⟩,rfl,rfl⟩:=hr;obtain⟨m,hm⟩:=jz hgl hg hsh;refine Lp (hc x.1 x.2.1 m w hb hm) ?_;rintro e w' ⟨rfl,k,rfl⟩;exact⟨_,rfl,⟨⟨[_,_,_],[],[],rfl,⟨_,_,[],[],rfl,rfl,⟨rfl,rfl⟩,_,_,[],[],rfl,rfl,⟨rfl,rfl⟩,_,_,[],[],rfl,rfl,⟨rfl,rfl⟩,rfl,rfl⟩,⟨rfl,rfl⟩,by simp[Az],by simp[Az]⟩,rfl,rfl,rfl,As _,λb hb _=>rfl,Pk.old λb hb=>rfl⟩⟩
def yW{w:World}{Z:Nat->Prop}{args:List Value}{e:TypeId}{xs:List A4}{cap:Nat}{cs:Array Value}(Hg:xs.length<=cap)(hm:cap<=maxLen)(hsz:cs.size=cap)(hcs:∀(i:Nat) (s:A4),xs[i]? =I s->cs[i]? =I (Zv s)){ps:List Sh}
  {r2:LTs (B6 ps)}{g:LTs ps->Option (LTs [.row e .str]×LTs (B6 ps))}(hb:∀w' M,Cc P w' M (ar args) (B6 ps) r2 (Je ps args) []):
  Ret P ⟨ps,[.row e .str],g⟩ Z args [] w ((xs,()),r2) (.slice (I ⟨w.heap.size,0,U⟩) xs.length cap) (w.alloc<|.cells cs e):=by
 have hat:(w.alloc<|.cells cs e).heap[w.heap.size]? =I (.cells cs e (0,0)):=heap_alloc_new w _;have azw:(w.alloc<|.cells cs e).heap.size=w.heap.size+1:=World.size_alloc _ _;refine⟨⟨[_],[(.slice (I ⟨w.heap.size,0,U⟩) xs.length cap,xs.length)],[],rfl,⟨_,_,[_],[],rfl,rfl,⟨rfl,rfl,λβ _=> .inr ⟨w.heap.size,0,cap,cs,(0,0),rfl,hat,rfl,Hg,hm,by simp[ks,hsz], ?_⟩⟩,rfl,rfl⟩,hb _ _,by simp[Az,HE,adr], ?_⟩,rfl,rfl,rfl,J,λb hb _=>heap_alloc_old w _ hb,Pk.old λb hb=>heap_alloc_old w _ hb⟩
 .intro i x j c u h1 h2 h3;cases j with
  | zero=>
   simp[enc]at h2;subst h2;rw[show(0:Nat)+(i * ks .str+0)=i by simp[ks],hcs i x h1]at h3;cases h3;exact RC.lit rfl
  | succ j=>simp[enc]at h2
 .intro b hb;simp[Az,HE,adr]at hb;subst hb;exact⟨.inr (As _),J⟩
def arW(he:MI P f){gm:Nat}{e:TypeId}(hg:gm<P.globals.size)(hsh:∀w:World,w.ShapedOpen P->∃m,w.cell? ⟨gm,0,U⟩=I (.int .i64 m))
  (hc:∀(s sep:A4) (m:Int) (w:World) (hs:s.size<4294967281) (hm:w.cell? ⟨gm,0,U⟩=I (.int .i64 m)) (h1:1<=sep.size),
   Calls P f #[.string s,.string sep] w λen w'=>en= .returned (.slice (I ⟨w.heap.size,0,U⟩) (Mv s sep+1)<|Mv s sep+1)/\w'=w.alloc (.cells ((J9 sep 0 (Mv s sep) s).map Zv).toArray e)):
  Gt P f ⟨[.str,.str],[.row e .str],V2⟩:=by
 refine⟨he,λx r hx w Z args os hr hnd hbl hZ hgl=> ?_⟩;simp only[V2]at hx;split at hx
 case isFalse=>cases hx
 rename_i hb;cases hx;obtain⟨u,us,o1,o2,rfl,rfl,⟨rfl,rfl⟩,v,vs,p1,p2,rfl,rfl,⟨rfl,rfl⟩,rfl,rfl⟩:=hr;obtain⟨m,hm⟩:=jz hgl hg hsh;have hl:=Lib.splitB_all x.2.1 hb.2 0 _ x.1 rfl;have hle:=Lib.countB_le x.2.1 hb.2 x.1.size x.1<|As _;refine Lp (hc x.1 x.2.1 m w hb.1 hm hb.2) ?_;rintro en w' ⟨rfl,rfl⟩;refine⟨_,rfl, ?_⟩;rw[← hl];exact yW (As _) (by rw[hl];simp[maxLen];omega) (by simp) (λi s h=>by simp[h]) λ_ _=>⟨rfl,rfl⟩
def ajv(he:MI P f){gm:Nat}{e:TypeId}(hg:gm<P.globals.size)(hsh:∀w:World,w.ShapedOpen P->∃m,w.cell? ⟨gm,0,U⟩=I (.int .i64 m))
  (hc:∀(s sep:A4) (n:Nat) (m:Int) (w:World) (hs:s.size<4294967281) (hm:w.cell? ⟨gm,0,U⟩=I (.int .i64 m)) (h1:1<=sep.size) (hn:1<=n) (wA:n<=9223372036854775807),
   Calls P f #[.string s,.string sep,.int .i64 n] w λen w'=>en= .returned (.slice (I ⟨w.heap.size,0,U⟩) (J9 sep 0 (min n (s.size+1) - 1) s).length<|min n<|s.size+1)/\w'=w.alloc (.cells (ae (J9 sep 0 (min n (s.size+1) - 1) s)<|min n<|s.size+1) e)):
  Gt P f ⟨[.str,.str,.int .i64],[.row e .str],Vf⟩:=by
 refine⟨he,λx r hx w Z args os hr hnd hbl hZ hgl=> ?_⟩;simp only[Vf]at hx;split at hx
 case isFalse=>cases hx
 rename_i hb;cases hx;obtain⟨u,us,o1,o2,rfl,rfl,⟨rfl,rfl⟩,v,vs,p1,p2,rfl,rfl,⟨rfl,rfl⟩,y,ys,q1,q2,rfl,rfl,⟨rfl,rfl⟩,rfl,rfl⟩:=hr;obtain⟨m,hm⟩:=jz hgl hg hsh;have hl:=Lib.splitB_length_le x.2.1 0 (min x.2.2.1.toNat (x.1.size+1) - 1) x.1;have hn:((x.2.2.1.toNat:Nat):Int)=x.2.2.1:=kM J;have hc':=hc x.1 x.2.1 x.2.2.1.toNat m w hb.1 hm hb.2.1 J J;rw[hn]at hc';refine Lp hc' ?_;rintro en w' ⟨rfl,rfl⟩;refine⟨_,rfl, ?_⟩;exact yW J (by simp[maxLen];omega) (Lib.cellsOf_size J) (λi s h=>by
  have hi:=(BP.1 h).1;rw[ae,UQ,G0<|by simpa using hi,DE,h];rfl) (λ_ _=>⟨rfl,rfl⟩)
end Go.VS
end
