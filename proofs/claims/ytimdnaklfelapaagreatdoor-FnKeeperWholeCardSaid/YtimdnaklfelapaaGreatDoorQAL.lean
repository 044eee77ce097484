/- An evaluator of the program's own code with its soundness, the printed texts of the functions, and plain laws of them (part 12). -/
import Derived.Lib.Split
import Derived.Lib.SplitLaws
import Derived.Lib.IndexMore
import Derived.Deep.Draws
import Derived.Sort.Grow
import Derived.Test.YtimdnaklfelapaaGreatDoorQAK
set_option linter.unusedVariables false
set_option linter.unusedSimpArgs false
set_option linter.defProp false
open Array renaming getElem?_append_left→asj
open Go.Calls renaming mono→atB
open Go.Lib renaming cellsOf→avc,cut→asA,pow10Tab→atN
open Go.Sort renaming grow→auo
open Go.Value renaming string→au5
open Go.World renaming cell?→at7
open Int renaming toNat_of_nonneg→au1
open List renaming getElem?_append_left→arO,getElem?_eq_some_iff→aqF,getElem?_map→ari,getElem?_toArray→atl
open Nat renaming le_refl→aqG
open Option renaming bind_some→aqs,map_eq_some_iff→aqY
noncomputable section
namespace Go.VS
open Go
variable {P:Program} {f:FuncId}
def MD{w:World}{O:Nat→Prop}{gm:Nat}(hgl:Zr P w O)(hg:gm < P.globals.size)(hsh: ∀ w:World,w.ShapedOpen P→ ∃ m,w.cell? ⟨gm,0,none⟩=some (.int .i64 m)): ∃ m,w.cell? ⟨gm,0,none⟩=some (.int .i64 m):=by
 obtain⟨w0,h1,h2⟩:=hgl;obtain⟨m,hm⟩:=hsh w0 h1.1;refine⟨m, ?_⟩;rw[← hm];unfold at7;rw[(h2 gm hg).2.2]
def aeq{w:World}{O:Nat→Prop}(hgl:Zr P w O){gt:Nat}(hn:P.globalNamed "internal/strconv.uint64pow10" =some gt)(hg:gt < P.globals.size):Lib.TabIs P w "internal/strconv.uint64pow10" .u64 atN:=by
 obtain⟨w0,h1,h2⟩:=hgl;have h:=h1.2 (by rw[hn];simp);unfold Lib.TabIs World.var? at h ⊢;rw[hn]at h ⊢;simp only[aqs]at h ⊢;rw[(h2 gt hg).2.2];exact h
def Yq(x:Int×aqq):Option ((aqp×aqq)×aqq):=if -9223372036854775808≤x.1∧x.1≤9223372036854775807 then some ((⟨(Lib.itoa x.1).toArray⟩,()),()) else none
def aaQ(x:aqp×aqp×aqq):Option ((aqp×aqp×Bool×aqq)×aqq):=
 if x.1.size < 4294967281 then some ((⟨(asA x.1.data.toList x.2.1.data.toList).1.toArray⟩,⟨(asA x.1.data.toList x.2.1.data.toList).2.1.toArray⟩,(asA x.1.data.toList x.2.1.data.toList).2.2,()),()) else none
def P2(x:aqp×aqp×aqq):Option ((List aqp×aqq)×aqq):=
 if x.1.size < 4294967281∧1≤x.2.1.size then some ((Lib.splitB x.2.1 0 (Lib.countB x.1 x.2.1) x.1,()),()) else none
def Ik(x:aqp×aqp×Int×aqq):Option ((List aqp×aqq)×aqq):=
 if x.1.size < 4294967281∧1≤x.2.1.size∧1≤x.2.2.1∧x.2.2.1≤9223372036854775807 then some ((Lib.splitB x.2.1 0 (min x.2.2.1.toNat (x.1.size+1) - 1) x.1,()),()) else none
def aao(he:Ba P f)(hn:(P.globalNamed "internal/strconv.uint64pow10").map (fun g=>decide (g < P.globals.size))=some true)
  (hc: ∀ (n:Int) (h0: -9223372036854775808≤n) (h1:n≤9223372036854775807) (w:World) (anJ:Lib.TabIs P w "internal/strconv.uint64pow10" .u64 atN),
   Calls P f #[.int .i64 n] w fun e w'=>e= .returned (.string ⟨(Lib.itoa n).toArray⟩)∧ ∃ k os,w'=auo (w.drewN k) os):tu P f ⟨[.int .i64],[.str],Yq⟩:=by
 obtain⟨gt,hn,hg⟩:=aqY.1 hn;have hg:=aqk hg;refine⟨he,fun x r hx w Z args os hr hnd hbl hZ hgl=> ?_⟩;simp only[Yq]at hx;split at hx
 case isFalse=>cases hx
 rename_i hb;cases hx;obtain⟨u,us,o1,o2,rfl,rfl,⟨rfl,rfl⟩,rfl,rfl⟩:=hr;refine atB (hc x.1 hb.1 hb.2 w (aeq hgl hn hg)) ?_;rintro e w' ⟨rfl,k,os,rfl⟩;exact⟨_,rfl,⟨⟨[.string _],[],[],rfl,⟨_,_,[],[],rfl,rfl,⟨rfl,rfl⟩,rfl,rfl⟩,⟨rfl,rfl⟩,by simp[bC],by simp[bC]⟩,rfl,rfl,rfl,by simp[auo,World.drewN],fun b hb _=>by simp[auo,World.drewN,asj hb],Pk.old fun b hb=>by simp[auo,World.drewN,asj hb]⟩⟩
def adI(he:Ba P f){gm:Nat}(hg:gm < P.globals.size)(hsh: ∀ w:World,w.ShapedOpen P→ ∃ m,w.cell? ⟨gm,0,none⟩=some (.int .i64 m))
  (hc: ∀ (s sep:aqp) (m:Int) (w:World) (hs:s.size < 4294967281) (hm:w.cell? ⟨gm,0,none⟩=some (.int .i64 m)),
   Calls P f #[.string s,.string sep] w fun e w'=>e= .returned (.tuple #[.string ⟨(asA s.data.toList sep.data.toList).1.toArray⟩,.string ⟨(asA s.data.toList sep.data.toList).2.1.toArray⟩,.bool (asA s.data.toList sep.data.toList).2.2])∧ ∃ n,w'=w.drewN n):
  tu P f ⟨[.str,.str],[.str,.str,.bool],aaQ⟩:=by
 refine⟨he,fun x r hx w Z args os hr hnd hbl hZ hgl=> ?_⟩;simp only[aaQ]at hx;split at hx
 case isFalse=>cases hx
 rename_i hb;cases hx;obtain⟨u,us,o1,o2,rfl,rfl,⟨rfl,rfl⟩,v,vs,p1,p2,rfl,rfl,⟨rfl,rfl⟩,rfl,rfl⟩:=hr;obtain⟨m,hm⟩:=MD hgl hg hsh;refine atB (hc x.1 x.2.1 m w hb hm) ?_;rintro e w' ⟨rfl,k,rfl⟩;exact⟨_,rfl,⟨⟨[_,_,_],[],[],rfl,⟨_,_,[],[],rfl,rfl,⟨rfl,rfl⟩,_,_,[],[],rfl,rfl,⟨rfl,rfl⟩,_,_,[],[],rfl,rfl,⟨rfl,rfl⟩,rfl,rfl⟩,⟨rfl,rfl⟩,by simp[bC],by simp[bC]⟩,rfl,rfl,rfl,aqG _,fun b hb _=>rfl,Pk.old fun b hb=>rfl⟩⟩
def abd{w:World}{Z:Nat→Prop}{args:List Value}{e:TypeId}{xs:List aqp}{cap:Nat}{cs:Array Value}(alm:xs.length≤cap)(hm:cap≤maxLen)(hsz:cs.size=cap)(hcs: ∀ (i:Nat) (s:aqp),xs[i]? =some s→cs[i]? =some (au5 s)){ps:List Sh}
  {r2:LTs (aT ps)}{g:LTs ps→Option (LTs [.row e .str]×LTs (aT ps))}(hb: ∀ w' M,akn P w' M (ar args) (aT ps) r2 (nY ps args) []):
  Ret P ⟨ps,[.row e .str],g⟩ Z args [] w ((xs,()),r2) (.slice (some ⟨w.heap.size,0,none⟩) xs.length cap) (w.alloc (.cells cs e)):=by
 have hat:(w.alloc (.cells cs e)).heap[w.heap.size]? =some (.cells cs e (0,0)):=heap_alloc_new w _;have aqa:(w.alloc (.cells cs e)).heap.size=w.heap.size+1:=World.size_alloc _ _;refine⟨⟨[_],[(.slice (some ⟨w.heap.size,0,none⟩) xs.length cap,xs.length)],[],rfl,⟨_,_,[_],[],rfl,rfl,⟨rfl,rfl,fun β _=> .inr ⟨w.heap.size,0,cap,cs,(0,0),rfl,hat,rfl,alm,hm,by simp[ks,hsz], ?_⟩⟩,rfl,rfl⟩,hb _ _,by simp[bC,uE,adr], ?_⟩,rfl,rfl,rfl,by omega,fun b hb _=>heap_alloc_old w _ hb,Pk.old fun b hb=>heap_alloc_old w _ hb⟩
 ·intro i x j c u h1 h2 h3;cases j with
  | zero=>
   simp[enc]at h2;subst h2;rw[show(0:Nat)+(i * ks .str+0)=i by simp[ks],hcs i x h1]at h3;cases h3;exact RC.lit rfl
  | succ j=>simp[enc]at h2
 ·intro b hb;simp[bC,uE,adr]at hb;subst hb;exact⟨.inr (aqG _),by omega⟩
def XJ(he:Ba P f){gm:Nat}{e:TypeId}(hg:gm < P.globals.size)(hsh: ∀ w:World,w.ShapedOpen P→ ∃ m,w.cell? ⟨gm,0,none⟩=some (.int .i64 m))
  (hc: ∀ (s sep:aqp) (m:Int) (w:World) (hs:s.size < 4294967281) (hm:w.cell? ⟨gm,0,none⟩=some (.int .i64 m)) (h1:1≤sep.size),
   Calls P f #[.string s,.string sep] w fun en w'=>en= .returned (.slice (some ⟨w.heap.size,0,none⟩) (Lib.countB s sep+1) (Lib.countB s sep+1))∧w'=w.alloc (.cells ((Lib.splitB sep 0 (Lib.countB s sep) s).map au5).toArray e)):
  tu P f ⟨[.str,.str],[.row e .str],P2⟩:=by
 refine⟨he,fun x r hx w Z args os hr hnd hbl hZ hgl=> ?_⟩;simp only[P2]at hx;split at hx
 case isFalse=>cases hx
 rename_i hb;cases hx;obtain⟨u,us,o1,o2,rfl,rfl,⟨rfl,rfl⟩,v,vs,p1,p2,rfl,rfl,⟨rfl,rfl⟩,rfl,rfl⟩:=hr;obtain⟨m,hm⟩:=MD hgl hg hsh;have hl:=Lib.splitB_all x.2.1 hb.2 0 _ x.1 rfl;have hle:=Lib.countB_le x.2.1 hb.2 x.1.size x.1 (aqG _);refine atB (hc x.1 x.2.1 m w hb.1 hm hb.2) ?_;rintro en w' ⟨rfl,rfl⟩;refine⟨_,rfl, ?_⟩;rw[← hl];exact abd (aqG _) (by rw[hl];simp[maxLen];omega) (by simp) (fun i s h=>by simp[h]) (fun _ _=>⟨rfl,rfl⟩)
def Wp(he:Ba P f){gm:Nat}{e:TypeId}(hg:gm < P.globals.size)(hsh: ∀ w:World,w.ShapedOpen P→ ∃ m,w.cell? ⟨gm,0,none⟩=some (.int .i64 m))
  (hc: ∀ (s sep:aqp) (n:Nat) (m:Int) (w:World) (hs:s.size < 4294967281) (hm:w.cell? ⟨gm,0,none⟩=some (.int .i64 m)) (h1:1≤sep.size) (hn:1≤n) (aoU:n≤9223372036854775807),
   Calls P f #[.string s,.string sep,.int .i64 n] w fun en w'=>en= .returned (.slice (some ⟨w.heap.size,0,none⟩) (Lib.splitB sep 0 (min n (s.size+1) - 1) s).length (min n (s.size+1)))∧w'=w.alloc (.cells (avc (Lib.splitB sep 0 (min n (s.size+1) - 1) s) (min n (s.size+1))) e)):
  tu P f ⟨[.str,.str,.int .i64],[.row e .str],Ik⟩:=by
 refine⟨he,fun x r hx w Z args os hr hnd hbl hZ hgl=> ?_⟩;simp only[Ik]at hx;split at hx
 case isFalse=>cases hx
 rename_i hb;cases hx;obtain⟨u,us,o1,o2,rfl,rfl,⟨rfl,rfl⟩,v,vs,p1,p2,rfl,rfl,⟨rfl,rfl⟩,y,ys,q1,q2,rfl,rfl,⟨rfl,rfl⟩,rfl,rfl⟩:=hr;obtain⟨m,hm⟩:=MD hgl hg hsh;have hl:=Lib.splitB_length_le x.2.1 0 (min x.2.2.1.toNat (x.1.size+1) - 1) x.1;have hn:((x.2.2.1.toNat:Nat):Int)=x.2.2.1:=au1 (by omega);have hc':=hc x.1 x.2.1 x.2.2.1.toNat m w hb.1 hm hb.2.1 (by omega) (by omega);rw[hn]at hc';refine atB hc' ?_;rintro en w' ⟨rfl,rfl⟩;refine⟨_,rfl, ?_⟩;exact abd (by omega) (by simp[maxLen];omega) (Lib.cellsOf_size (by omega)) (fun i s h=>by
  have hi:=(aqF.1 h).1;rw[avc,atl,arO (by simpa using hi),ari,h];rfl) (fun _ _=>⟨rfl,rfl⟩)
end Go.VS
end
