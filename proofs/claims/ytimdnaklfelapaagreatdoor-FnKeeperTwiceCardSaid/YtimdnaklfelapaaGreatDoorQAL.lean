/- Part 12. -/
import Derived.Lib.Split
import Derived.Lib.SplitLaws
import Derived.Lib.IndexMore
import Derived.Deep.Draws
import Derived.Sort.Grow
import Derived.Test.YtimdnaklfelapaaGreatDoorQAK
open Array renaming getElem?_append_left→awC
open Go.Calls renaming mono→ax1
open Go.Lib renaming cellsOf→azt,cut→awQ,pow10Tab→ayd
open Go.Sort renaming grow→ayJ
open Go.Value renaming string→azn
open Go.World renaming cell?→ayw
open Int renaming toNat_of_nonneg→azj
open List renaming getElem?_append_left→avQ,getElem?_eq_some_iff→auR,getElem?_map→avz,getElem?_toArray→axK
open Nat renaming le_refl→auS
open Option renaming bind_some→auE,map_eq_some_iff→avc
set_option linter.unusedVariables false
set_option linter.unusedSimpArgs false
set_option linter.defProp false
noncomputable section
namespace Go.VS
open Go
variable {P:Program} {f:FuncId}
def PW{w:World}{O:Nat→Prop}{gm:Nat}(hgl:ac2 P w O)(hg:gm < P.globals.size)(hsh: ∀ w:World,w.ShapedOpen P→ ∃ m,w.cell? ⟨gm,0,none⟩=some (.int .i64 m)): ∃ m,w.cell? ⟨gm,0,none⟩=some (.int .i64 m):=by
 obtain⟨w0,h1,h2⟩:=hgl;obtain⟨m,hm⟩:=hsh w0 h1.1;refine⟨m, ?_⟩;rw[← hm];unfold ayw;rw[(h2 gm hg).2.2]
def ah1{w:World}{O:Nat→Prop}(hgl:ac2 P w O){gt:Nat}(hn:P.globalNamed "internal/strconv.uint64pow10" =some gt)(hg:gt < P.globals.size):Lib.TabIs P w "internal/strconv.uint64pow10" .u64 ayd:=by
 obtain⟨w0,h1,h2⟩:=hgl;have h:=h1.2 (by rw[hn];simp);unfold Lib.TabIs World.var? at h ⊢;rw[hn]at h ⊢;simp only[auE]at h ⊢;rw[(h2 gt hg).2.2];exact h
def acb(x:Int×auC):Option ((auB×auC)×auC):=if -9223372036854775808≤x.1∧x.1≤9223372036854775807 then some ((⟨(Lib.itoa x.1).toArray⟩,()),()) else none
def aen(x:auB×auB×auC):Option ((auB×auB×Bool×auC)×auC):=
 if x.1.size < 4294967281 then some ((⟨(awQ x.1.data.toList x.2.1.data.toList).1.toArray⟩,⟨(awQ x.1.data.toList x.2.1.data.toList).2.1.toArray⟩,(awQ x.1.data.toList x.2.1.data.toList).2.2,()),()) else none
def Tu(x:auB×auB×auC):Option ((List auB×auC)×auC):=
 if x.1.size < 4294967281∧1≤x.2.1.size then some ((Lib.splitB x.2.1 0 (Lib.countB x.1 x.2.1) x.1,()),()) else none
def Lw(x:auB×auB×Int×auC):Option ((List auB×auC)×auC):=
 if x.1.size < 4294967281∧1≤x.2.1.size∧1≤x.2.2.1∧x.2.2.1≤9223372036854775807 then some ((Lib.splitB x.2.1 0 (min x.2.2.1.toNat (x.1.size+1) - 1) x.1,()),()) else none
def adR(he:DS P f)(hn:(P.globalNamed "internal/strconv.uint64pow10").map (fun g=>decide (g < P.globals.size))=some true)
  (hc: ∀ (n:Int) (h0: -9223372036854775808≤n) (h1:n≤9223372036854775807) (w:World) (arB:Lib.TabIs P w "internal/strconv.uint64pow10" .u64 ayd),
   Calls P f #[.int .i64 n] w fun e w'=>e= .returned (.string ⟨(Lib.itoa n).toArray⟩)∧ ∃ k os,w'=ayJ (w.drewN k) os):we P f ⟨[.int .i64],[.str],acb⟩:=by
 obtain⟨gt,hn,hg⟩:=avc.1 hn;have hg:=auv hg;refine⟨he,fun x r hx w Z args os hr hnd hbl hZ hgl=> ?_⟩;simp only[acb]at hx;split at hx
 case isFalse=>cases hx
 rename_i hb;cases hx;obtain⟨u,us,o1,o2,rfl,rfl,⟨rfl,rfl⟩,rfl,rfl⟩:=hr;refine ax1 (hc x.1 hb.1 hb.2 w (ah1 hgl hn hg)) ?_;rintro e w' ⟨rfl,k,os,rfl⟩;exact⟨_,rfl,⟨⟨[.string _],[],[],rfl,⟨_,_,[],[],rfl,rfl,⟨rfl,rfl⟩,rfl,rfl⟩,⟨rfl,rfl⟩,by simp[bX],by simp[bX]⟩,rfl,rfl,rfl,by simp[ayJ,World.drewN],fun b hb _=>by simp[ayJ,World.drewN,awC hb],Pk.old fun b hb=>by simp[ayJ,World.drewN,awC hb]⟩⟩
def ahk(he:DS P f){gm:Nat}(hg:gm < P.globals.size)(hsh: ∀ w:World,w.ShapedOpen P→ ∃ m,w.cell? ⟨gm,0,none⟩=some (.int .i64 m))
  (hc: ∀ (s sep:auB) (m:Int) (w:World) (hs:s.size < 4294967281) (hm:w.cell? ⟨gm,0,none⟩=some (.int .i64 m)),
   Calls P f #[.string s,.string sep] w fun e w'=>e= .returned (.tuple #[.string ⟨(awQ s.data.toList sep.data.toList).1.toArray⟩,.string ⟨(awQ s.data.toList sep.data.toList).2.1.toArray⟩,.bool (awQ s.data.toList sep.data.toList).2.2])∧ ∃ n,w'=w.drewN n):
  we P f ⟨[.str,.str],[.str,.str,.bool],aen⟩:=by
 refine⟨he,fun x r hx w Z args os hr hnd hbl hZ hgl=> ?_⟩;simp only[aen]at hx;split at hx
 case isFalse=>cases hx
 rename_i hb;cases hx;obtain⟨u,us,o1,o2,rfl,rfl,⟨rfl,rfl⟩,v,vs,p1,p2,rfl,rfl,⟨rfl,rfl⟩,rfl,rfl⟩:=hr;obtain⟨m,hm⟩:=PW hgl hg hsh;refine ax1 (hc x.1 x.2.1 m w hb hm) ?_;rintro e w' ⟨rfl,k,rfl⟩;exact⟨_,rfl,⟨⟨[_,_,_],[],[],rfl,⟨_,_,[],[],rfl,rfl,⟨rfl,rfl⟩,_,_,[],[],rfl,rfl,⟨rfl,rfl⟩,_,_,[],[],rfl,rfl,⟨rfl,rfl⟩,rfl,rfl⟩,⟨rfl,rfl⟩,by simp[bX],by simp[bX]⟩,rfl,rfl,rfl,auS _,fun b hb _=>rfl,Pk.old fun b hb=>rfl⟩⟩
def aeJ{w:World}{Z:Nat→Prop}{args:List Value}{e:TypeId}{xs:List auB}{cap:Nat}{cs:Array Value}(ape:xs.length≤cap)(hm:cap≤maxLen)(hsz:cs.size=cap)(hcs: ∀ (i:Nat) (s:auB),xs[i]? =some s→cs[i]? =some (azn s)){ps:List Sh}
  {r2:LTs (bg ps)}{g:LTs ps→Option (LTs [.row e .str]×LTs (bg ps))}(hb: ∀ w' M,an3 P w' M (ar args) (bg ps) r2 (pW ps args) []):
  Ret P ⟨ps,[.row e .str],g⟩ Z args [] w ((xs,()),r2) (.slice (some ⟨w.heap.size,0,none⟩) xs.length cap) (w.alloc (.cells cs e)):=by
 have hat:(w.alloc (.cells cs e)).heap[w.heap.size]? =some (.cells cs e (0,0)):=heap_alloc_new w _;have aum:(w.alloc (.cells cs e)).heap.size=w.heap.size+1:=World.size_alloc _ _;refine⟨⟨[_],[(.slice (some ⟨w.heap.size,0,none⟩) xs.length cap,xs.length)],[],rfl,⟨_,_,[_],[],rfl,rfl,⟨rfl,rfl,fun β _=> .inr ⟨w.heap.size,0,cap,cs,(0,0),rfl,hat,rfl,ape,hm,by simp[ks,hsz], ?_⟩⟩,rfl,rfl⟩,hb _ _,by simp[bX,xf,adr], ?_⟩,rfl,rfl,rfl,by omega,fun b hb _=>heap_alloc_old w _ hb,Pk.old fun b hb=>heap_alloc_old w _ hb⟩
 ·intro i x j c u h1 h2 h3;cases j with
  | zero=>
   simp[enc]at h2;subst h2;rw[show(0:Nat)+(i * ks .str+0)=i by simp[ks],hcs i x h1]at h3;cases h3;exact RC.lit rfl
  | succ j=>simp[enc]at h2
 ·intro b hb;simp[bX,xf,adr]at hb;subst hb;exact⟨.inr (auS _),by omega⟩
def abp(he:DS P f){gm:Nat}{e:TypeId}(hg:gm < P.globals.size)(hsh: ∀ w:World,w.ShapedOpen P→ ∃ m,w.cell? ⟨gm,0,none⟩=some (.int .i64 m))
  (hc: ∀ (s sep:auB) (m:Int) (w:World) (hs:s.size < 4294967281) (hm:w.cell? ⟨gm,0,none⟩=some (.int .i64 m)) (h1:1≤sep.size),
   Calls P f #[.string s,.string sep] w fun en w'=>en= .returned (.slice (some ⟨w.heap.size,0,none⟩) (Lib.countB s sep+1) (Lib.countB s sep+1))∧w'=w.alloc (.cells ((Lib.splitB sep 0 (Lib.countB s sep) s).map azn).toArray e)):
  we P f ⟨[.str,.str],[.row e .str],Tu⟩:=by
 refine⟨he,fun x r hx w Z args os hr hnd hbl hZ hgl=> ?_⟩;simp only[Tu]at hx;split at hx
 case isFalse=>cases hx
 rename_i hb;cases hx;obtain⟨u,us,o1,o2,rfl,rfl,⟨rfl,rfl⟩,v,vs,p1,p2,rfl,rfl,⟨rfl,rfl⟩,rfl,rfl⟩:=hr;obtain⟨m,hm⟩:=PW hgl hg hsh;have hl:=Lib.splitB_all x.2.1 hb.2 0 _ x.1 rfl;have hle:=Lib.countB_le x.2.1 hb.2 x.1.size x.1 (auS _);refine ax1 (hc x.1 x.2.1 m w hb.1 hm hb.2) ?_;rintro en w' ⟨rfl,rfl⟩;refine⟨_,rfl, ?_⟩;rw[← hl];exact aeJ (auS _) (by rw[hl];simp[maxLen];omega) (by simp) (fun i s h=>by simp[h]) (fun _ _=>⟨rfl,rfl⟩)
def ZR(he:DS P f){gm:Nat}{e:TypeId}(hg:gm < P.globals.size)(hsh: ∀ w:World,w.ShapedOpen P→ ∃ m,w.cell? ⟨gm,0,none⟩=some (.int .i64 m))
  (hc: ∀ (s sep:auB) (n:Nat) (m:Int) (w:World) (hs:s.size < 4294967281) (hm:w.cell? ⟨gm,0,none⟩=some (.int .i64 m)) (h1:1≤sep.size) (hn:1≤n) (asZ:n≤9223372036854775807),
   Calls P f #[.string s,.string sep,.int .i64 n] w fun en w'=>en= .returned (.slice (some ⟨w.heap.size,0,none⟩) (Lib.splitB sep 0 (min n (s.size+1) - 1) s).length (min n (s.size+1)))∧w'=w.alloc (.cells (azt (Lib.splitB sep 0 (min n (s.size+1) - 1) s) (min n (s.size+1))) e)):
  we P f ⟨[.str,.str,.int .i64],[.row e .str],Lw⟩:=by
 refine⟨he,fun x r hx w Z args os hr hnd hbl hZ hgl=> ?_⟩;simp only[Lw]at hx;split at hx
 case isFalse=>cases hx
 rename_i hb;cases hx;obtain⟨u,us,o1,o2,rfl,rfl,⟨rfl,rfl⟩,v,vs,p1,p2,rfl,rfl,⟨rfl,rfl⟩,y,ys,q1,q2,rfl,rfl,⟨rfl,rfl⟩,rfl,rfl⟩:=hr;obtain⟨m,hm⟩:=PW hgl hg hsh;have hl:=Lib.splitB_length_le x.2.1 0 (min x.2.2.1.toNat (x.1.size+1) - 1) x.1;have hn:((x.2.2.1.toNat:Nat):Int)=x.2.2.1:=azj (by omega);have hc':=hc x.1 x.2.1 x.2.2.1.toNat m w hb.1 hm hb.2.1 (by omega) (by omega);rw[hn]at hc';refine ax1 hc' ?_;rintro en w' ⟨rfl,rfl⟩;refine⟨_,rfl, ?_⟩;exact aeJ (by omega) (by simp[maxLen];omega) (Lib.cellsOf_size (by omega)) (fun i s h=>by
  have hi:=(auR.1 h).1;rw[azt,axK,avQ (by simpa using hi),avz,h];rfl) (fun _ _=>⟨rfl,rfl⟩)
end Go.VS
end
