/- Part 21. -/
import Derived.Test.YtadnafhbeojhoaaGreatDoorQAT
open Bool renaming and_eq_true->AI,and_self->CZ,false->A3,false_ne_true->D0,not_false->AG,not_true->AD,true->A1
open Decidable renaming decide->A0
open Int renaming toNat_natCast->Bu
open List renaming getD_eq_getElem?_getD->BD,getElem?_eq_getElem->Ax,getElem_mem->CQ,getElem_of_mem->Dt,length_append->Ar,length_drop->Dd,length_nil->C2,length_set->Es,mem_of_mem_drop->Io,mem_or_eq_of_mem_set->Ox,nil_append->EW,not_mem_nil->M7,take_add_one->K5,take_length->Ec
open Nat renaming zero_add->DJ
open Option renaming bind_some->A9,some->I
set_option linter.all false
noncomputable section
namespace Go.VS
open Go
def Zy{w:Am}(sm:SmR w):MG (tR w,())=I ((tR w,()),()):=by
 obtain⟨ti,ks,ls,ra,se,go⟩:=w;have k1:=sm.kl;have k2:=sm.l;have k3:=sm.rl;have k4:=sm.sl;have k5:=sm.gl;unfold MG;simp only at k1 k2 k3 k4 k5;simp only[EW,C2,DJ];rw[A8<|B9 J,A8<|B9 J,A8<|B9 J,A8<|B9 J];have h:Ye (tR ⟨ti,ks,ls,ra,se,go⟩,tR zR,tR ⟨ti,ks.take 0,ls,ra,se,go⟩,((0:Nat):Int),())=I (.inr (tR zR,tR ⟨ti,ks,ls,ra,se,go⟩,())):=by
  refine CS (λi=>(tR ⟨ti,ks,ls,ra,se,go⟩,tR zR,tR ⟨ti,ks.take i,ls,ra,se,go⟩,(i:Int),())) ks.length ?_ ?_
  .intro i hi;unfold Wu;have hc:=Lg<|Kw sm.k i;simp only[Ia hi,A5,AR hi,JL,hc,A9];rw[A8<|B9 (by simp;omega),Di hi k1];have:ks.take i++[kA ks i]=ks.take (i+1):=by rw[K5,Ax hi,kA,BD,Ax hi];rfl
   rw[← this]
  .unfold Wu;simp only[Fe,A6,Ec]
 have h':Ye (tR ⟨ti,ks,ls,ra,se,go⟩,tR zR,tR ⟨ti,[],ls,ra,se,go⟩,0,())=I (.inr (tR zR,tR ⟨ti,ks,ls,ra,se,go⟩,())):=h;simp only[h'];rfl
def ahw{w:Am}(h:BS w){e:Event}(ht:e.tx.size<=1048576):
  Us (tR w,tE e,())=I ((tR<|Hw (doM w e).1 A1,(doM w e).2,()),()):=by
 have hti:=fU w e;unfold Us;refine aEd (w:=w) h (e:=e) ht (λc=> ?_) (λc c2=> ?_) (λk b c=> ?_) (λra c=> ?_) (λc=> ?_)
 .rw[c,Hw,A8 rfl,hti]<;>rfl
 .rw[c,c2];rfl
 .rw[c];rfl
 .rw[c];rfl
 .rw[c];rfl
def az4{w:Am}(h:BS w)(hlt:¬99999<=w.ti)(hrv:FU w=A1){e:Event}(ht:e.tx.size<=1048576):
  IB (tR w,tE e,())=I ((tR (if(doM w e).2 then(B8 w e,A1) else(w,A3)).1,(if(doM w e).2 then(B8 w e,A1) else(w,A3)).2,()),()):=by
 have hcw:=Zy h.sm;have hd:=ahw h ht;have hc2:=Zy (aE5 (yb h e) A1).sm;unfold IB;rw[show Nd ((tR w,tE e,()).1,())=_ from bh h.sm];simp only[A9,show GW w.ti w.AK w.B1 w.AU w.BJ w.got=A1 from hrv,AD,A6,Bf hlt,hcw];rw[show Us (tR w,(tE e,()))=_ from hd];unfold B8;rcases tf (doM w e).2 with c|c
 .simp only[A9,c,AD,A6,hc2,A5]
 .simp only[A9,c,AG,A5,A6]
def ZI{w:Am}(sm:SmR w){e:Event}(ht:e.tx.size<=1048576):IB (tR w,tE e,())=I ((tR (Bt w e).1,(Bt w e).2,()),()):=by
 unfold Bt;rcases tf (FU w) with c|c
 .have hw:=I4 c;rw[A8 c];by_cases hlt:99999<=w.ti
  .unfold IB;rw[show Nd (tR w,())=_ from bh sm];simp only[A9,show GW w.ti w.AK w.B1 w.AU w.BJ w.got=A1 from c,AD,A6,AZ hlt,A5,Zy sm]
  .rw[AB<|nd hlt];exact az4 hw.1 hlt c ht
 .rw[AB (by rw[c];exact D0)];unfold IB;rw[show Nd (tR w,())=_ from bh sm];simp only[A9,show GW w.ti w.AK w.B1 w.AU w.BJ w.got=A3 from c,AG,A5]
def WY(t:YR):Prop:=∃w:Am,t=tR w/\SmR w/\ ∀k∈w.AK,LZ k.AE
def WG(t:YR):Prop:=∃w:Am,t=tR w/\BS w/\ ∀k∈w.AK,LZ k.AE
def WG.y{t:YR}(h:WG t):WY t:=by
 obtain⟨w,e,h1,h2⟩:=h;exact⟨w,e,h1.sm,h2⟩
def WOk.g{E:List Event}{N:Nat}{t:_}(h:WOk E N t):WG (t.1,t.2.1,t.2.2.1,t.2.2.2.1,t.2.2.2.2.1,t.2.2.2.2.2.1,()):=by
 have hb:=h;obtain⟨w,ev,rfl,hw,_⟩:=h;refine⟨w,rfl,hw.ok,λk hk=> ?_⟩;obtain⟨i,hi,rfl⟩:=Dt hk;have hl:=hw.ok.kl;have:=hb.big (i:=(i:Int)) J J;rw[Bu]at this;have e:kA w.AK i=w.AK[i]:=by rw[kA,BD,Ax hi];rfl
 rw[← e];exact HT.odd this
def ad2{α:Type}{l:List α}{P:α->Prop}{i:Nat}{a:α}(h:∀x∈l,P x)(ha:P a):∀x∈l.set i a,P x:=by
 intro x hx;rcases Ox hx with h1|h1
 .exact h x h1
 .exact h1▸ha
def avO{N:Nat}{r:List Int×Int×A2}{w:Am}(h:C1 N r)(hN:N<=360000)(hw:BS w)(ho:∀k∈w.AK,LZ k.AE):Tot (Xw (r,tR w,())) λa=>WY a.1.1:=by
 have sm:=hw.sm;have kl:=hw.kl;have ll:=hw.ll;have rl:=hw.rl;have sl:=hw.sl;have gl:=hw.gl;unfold Xw;refine Tot.bind (Tot.eq<|show MG ((r,tR w,()).2)=_ from Zy sm) λr1 h1=> ?_;subst h1;refine Tot.bind (Au (x:=(r,8,())) h J) λr17 h17=>Tot.ite (λ_=> ?_) (λ_=> ?_)
 .refine Tot.bind (Au h17.1 J) λr18 h18=>Tot.bind (ajD h18.1 J) λr19 h19=> ?_;obtain⟨K,eK,smK,axr⟩:=h19.2.2;refine Tot.pos (DC h18.2.1<|h18.2.2<|show(1:Int)<=(w.AK.length:Int) by omega) (Tot.ret ⟨⟨w.ti,w.AK.set r18.1.1.toNat K,w.B1,w.AU,w.BJ,w.got⟩, ?_, ?_, ?_⟩)
  .rw[eK]
  .exact⟨by rw[Es];exact sm.kl,ad2 sm.k smK,sm.l,sm.rl,sm.r,sm.sl,sm.s,sm.gl,sm.g⟩
  .exact ad2 ho axr
 refine Tot.ite (λ_=> ?_) (λ_=> ?_)
 .exact Tot.bind (Au h17.1 J) λr20 h20=>Tot.pos (DC h20.2.1<|h20.2.2<|show(1:Int)<=4 by decide)<|Tot.ret ⟨⟨_,w.AK,w.B1,w.AU,w.BJ,w.got⟩,rfl,⟨sm.kl,sm.k,sm.l,sm.rl,sm.r,sm.sl,sm.s,sm.gl,sm.g⟩,ho⟩
 refine Tot.ite (λ_=> ?_) (λ_=> ?_)
 .refine Tot.pos (by
   show(A0 ((0:Int)<=1)&&A0 ((1:Int)<=(w.AK.length:Int)))=A1;rw[AI];exact⟨AZ J,AZ J⟩) (Tot.ret ⟨⟨w.ti,w.AK.drop 1,w.B1,w.AU,w.BJ,w.got⟩,rfl,⟨?_,λx hx=>sm.k x<|Io hx,sm.l,sm.rl,sm.r,sm.sl,sm.s,sm.gl,sm.g⟩,λx hx=>ho x<|Io hx⟩)
  rw[Dd];omega
 refine Tot.ite (λ_=> ?_) (λ_=> ?_)
 .refine Tot.pos (B9 (by show w.B1.length+1<=4294967296;omega))<|Tot.ret ⟨⟨w.ti,w.AK,w.B1++[A1],w.AU,w.BJ,w.got⟩,rfl,⟨sm.kl,sm.k, ?_,sm.rl,sm.r,sm.sl,sm.s,sm.gl,sm.g⟩,ho⟩;rw[Ar];show w.B1.length+1<=1048576;omega
 refine Tot.ite (λ_=> ?_) (λ_=> ?_)
 .refine Tot.bind (Au h17.1 J) λr23 h23=>Tot.bind (Au h23.1 J) λr24 h24=>Tot.bind (Au h24.1 J) λr25 h25=> ?_;have i1:r25.1.1<3:=h25.2.2 (show(1:Int)<=3 by decide);refine Tot.pos (DC h25.2.1 i1) ?_;have hv:0<= @rd Int (dfl .int) [0,40,41] r25.1.1/\ @rd Int (dfl .int) [0,40,41] r25.1.1<128:=by
   have i0:=h25.2.1;have:r25.1.1=0\/r25.1.1=1\/r25.1.1=2:=J
   obtain e|e|e:=this<;>rw[e]<;>exact⟨by decide,by decide⟩
  refine Tot.bind (Qe (s:=B [120]) (by decide) hv.1 hv.2) λr26 h26=> ?_;refine Tot.pos (B9 (by show w.AU.length+1<=4294967296;omega)) (Tot.ret ⟨⟨w.ti,w.AK,w.B1,w.AU++[_],w.BJ,w.got⟩,rfl,⟨sm.kl,sm.k,sm.l, ?_,Mp sm.r ?_,sm.sl,sm.s,sm.gl,sm.g⟩,ho⟩)
  .rw[Ar];show w.AU.length+1<=1048576;omega
  .show r26.1.1.size<=1048576;omega
 refine Tot.ite (λ_=> ?_) (λ_=> ?_)
 .refine Tot.bind (rr h17.1 J) λr27 h27=>Tot.pos (B9 (by show w.BJ.length+1<=4294967296;omega)) (Tot.ret ⟨⟨w.ti,w.AK,w.B1,w.AU,w.BJ++[_],w.got⟩,rfl,⟨sm.kl,sm.k,sm.l,sm.rl,sm.r, ?_,Mp sm.s ?_,sm.gl,sm.g⟩,ho⟩)
  .rw[Ar];show w.BJ.length+1<=1048576;omega
  .show r27.1.1.2.2.2.2.1.size<=1048576;have:=h27.2;omega
 refine Tot.ite (λ_=> ?_) (λ_=> ?_)
 .refine Tot.bind (rr h17.1 J) λr27 h27=>Tot.pos (B9 (by show w.got.length+1<=4294967296;omega)) (Tot.ret ⟨⟨w.ti,w.AK,w.B1,w.AU,w.BJ,w.got++[_]⟩,rfl,⟨sm.kl,sm.k,sm.l,sm.rl,sm.r,sm.sl,sm.s, ?_,Mp sm.g ?_⟩,ho⟩)
  .rw[Ar];show w.got.length+1<=1048576;omega
  .show r27.1.1.2.2.2.2.1.size<=1048576;have:=h27.2;omega
 .refine Tot.sum (P:=λ_=>False) (Q:=λy=>WY y.2.1) ?_ (λ_ h=>h.elim) (λy hy=>Tot.ret hy);refine Tot.loop (λi x=>C1 (N+1+i) x.1/\ ∃l:List AT,x.2.1=(w.ti,w.AK,w.B1,l,w.BJ,w.got,())/\(∀p∈l,rH p)/\l.length<=40/\(i:Int)<=l.length) _ 42 (λi x hi hx=> ?_) ⟨h17.1,w.AU,rfl,sm.r,J,J⟩;obtain⟨x1,l,x2,x3,x4,x5⟩:=hx;unfold qu;refine Tot.bind (Au x1 J) λr32 h32=> ?_;have v0:=h32.2.1;have v1:=h32.2.2 (show(1:Int)<=2 by decide);have v1':r32.1.1<2:=v1;have hwy:WY x.2.1:=by
   rw[x2];exact⟨⟨w.ti,w.AK,w.B1,l,w.BJ,w.got⟩,rfl,⟨sm.kl,sm.k,sm.l,by show l.length<=1048576;omega,x3,sm.sl,sm.s,sm.gl,sm.g⟩,ho⟩
  rw[x2];refine Tot.ite (λhc=> ?_) (λ_=>Tot.ret hwy);have hc:=BT hc;have hc:(l.length:Int)<w64 (30+r32.1.1):=hc;rw[Aa J J]at hc;refine Tot.pos (B9 (by show l.length+1<=4294967296;omega)) (Tot.ret ⟨J,h32.1,l++[_],rfl,Mp x3 (by show noB.size<=1048576;decide), ?_, ?_⟩)
  .rw[Ar];show l.length+1<=40;omega
  .rw[Ar];show((i+1:Nat):Int)<=((l.length+1:Nat):Int);omega
def axS{l:List Int}(hb:BOk l):Tot (O8 (l,())) λa=>WY a.1.1/\(zTx a.1.2.1).size<=1048576:=by
 have ez:noB.size<=1048576:=by decide
 have et:(B [116,101,120,116]).size<=1048576:=by decide
 unfold O8;refine Tot.bind (ani hb) λr1 h1=>Tot.bind (yf (M:=14) h1 (by decide) (by decide)<|by decide) λr2 h2=> ?_;refine Tot.join (A:=λj=>C1 350100 j.2.2.1/\WOk [] 350100 j.2.2.2.1.2) ?_ (λj hj=> ?_)
 .refine Tot.bind (Au h2.1 J) λr8 h8=>Tot.ite (λ_=> ?_) (λ_=>Tot.ret ⟨h8.1.up J,h2.2.up J⟩);refine Tot.bind (ad4 (s:=(r8.2.1,r2.1.1.2)) ⟨h8.1,h2.2.up J⟩ J) λr9 h9=>Tot.ite (λ_=> ?_) (λ_=>Tot.ret ⟨h9.1.r.up J,h9.1.w.up J⟩);exact Tot.bind (Au h9.1.r J) λr10 h10=>Tot.bind (Gk (s:=(r10.2.1,r9.2.1.2)) ⟨h10.1,h9.1.w.up J⟩ J ez) λr11 h11=>Tot.ret ⟨h11.r.up J,h11.w.up J⟩
 .obtain⟨hr,hw⟩:=hj;have hg:=hw.g;refine Tot.bind (Au hr J) λr12 h12=>Tot.bind (Au h12.1 J) λr13 h13=>Tot.bind (Au h13.1 J) λr14 h14=>Tot.bind (Au h14.1 J) λr15 h15=>Tot.bind (Au h15.1 J) λr16 h16=>Tot.bind (Au h16.1 J) λr17 h17=>Tot.bind (Au h17.1 J) λr18 h18=>Tot.bind (Au h18.1 J) λr19 h19=>Tot.bind (Au h19.1 J) λr20 h20=> ?_;refine Tot.join (A:=λj=>C1 350200 j.2.2.1/\WOk [] 350200 j.2.2.2.1.2/\WG j.2.2.2.2.1/\(zTx j.2.2.2.2.2.1).size<=1048576) ?_ (λj hj=> ?_)
  .refine Tot.ite (λ_=> ?_) (λ_=> ?_)
   .exact Tot.bind (Au h20.1 J) λr24 h24=>Tot.ret ⟨h24.1.up J,hw.up J,hg,et⟩
   .exact Tot.ret ⟨h20.1.up J,hw.up J,hg,et⟩
  .obtain⟨j1,j2,j3,j4⟩:=hj;refine Tot.bind (amd (s:=(j.2.2.1,j.2.2.2.1.2)) ⟨j1,j2⟩ J) λr25 h25=> ?_;refine Tot.join (A:=λj=>C1 350300 j.2.2.1/\WG j.2.2.2.1/\(zTx j.2.2.2.2.1).size<=1048576) ?_ (λj hj=> ?_)
   .refine Tot.join (A:=λj=>C1 350300 j.2.2.1/\WG j.2.2.2.1/\(zTx j.2.2.2.2.1).size<=1048576) ?_ (λj hj=> ?_)
    .refine Tot.ite (λ_=>Tot.ite (λ_=> ?_) λ_=> ?_) (λ_=> ?_)
     .exact Tot.bind (Au h25.1.r J) λr31 h31=>Tot.ret ⟨h31.1.up J,j3,j4⟩
     .exact Tot.ret ⟨h25.1.r.up J,j3,j4⟩
     .exact Tot.ret ⟨h25.1.r.up J,j3,j4⟩
    .exact Tot.ite (λ_=>Tot.ret hj) (λ_=>Tot.ret hj)
   .obtain⟨j1,j3,j4⟩:=hj;refine Tot.bind (Au j1 J) λr38 h38=>Tot.ite (λ_=> ?_) (λ_=>Tot.ite (λ_=> ?_) λ_=>Tot.ite (λ_=> ?_) λ_=>Tot.ret ⟨j3.y,j4⟩)
    .exact Tot.bind (Au h38.1 J) λr39 h39=>Tot.pos (DC h39.2.1<|h39.2.2<|show(1:Int)<=3 by decide) (Tot.ret ⟨j3.y,j4⟩)
    .exact Tot.bind (Au h38.1 J) λr39 h39=>Tot.pos (DC h39.2.1<|h39.2.2<|show(1:Int)<=3 by decide) (Tot.ret ⟨j3.y,j4⟩)
    .obtain⟨w,ew,hwk,ho⟩:=j3;refine Tot.bind (P:=λa=>WY a.1.1) ?_ λr43 h43=>Tot.ret ⟨h43,j4⟩;rw[ew];exact avO h38.1 J hwk ho
def eR{l:List Int}(hb:BOk l):∃w e,O8 (l,())=I ((tR w,tE e,()),())/\SmR w/\(∀k∈w.AK,LZ k.AE)/\e.tx.size<=1048576:=by
 obtain⟨⟨⟨y,⟨a,b,c,d,e,f,g,h,i,j,_⟩,_⟩,_⟩,e1,⟨w,e2,h1,h2⟩,h3⟩:=axS hb;simp only at e2;subst e2;exact⟨w,⟨a,b,c,d,e,f,g,h,i,j⟩,e1,h1,h2,h3⟩
def asG{l:List AH}{i:Nat}(hi:i<l.length)(hl:(hA l i).got.length<=1048576):lL (l,l,(i:Int),0,())=I (.inr (l,l,(i:Int),())):=
 CS (b:=V5) (λk=>(l,l,(i:Int),(k:Int),())) (hA l i).got.length (λk hk=>by
  unfold V5;simp only[AR hi,MP,AR hk,A5,AS,CZ,AD,A6,B2 hk (by omega:(hA l i).got.length<=9223372036854775807)];rw[A8<|by simpa using hk]) (by
  unfold V5;simp only[AR hi,MP,A5];rw[AB<|by simp])
def atQ{l:List AH}(hl:l.length<=1048576)(hs:∀h∈l,Pn h):Oc (l,l,())=I ((A1,()),()):=by
 have h0:qV (l,l,0,())=I (.inr ()):=
  CS (b:=Un) (λk=>(l,l,(k:Int),())) l.length (λk hk=>by
   have hg:(hA l k).got.length<=1048576:=by rw[FZ hk];exact(hs _<|CQ hk).1
   unfold Un;simp only[AR hk,MP,B7 hk,A5,AS,AD,A6,asG hk hg,C9,B2 hk (by omega:l.length<=9223372036854775807)]) (by
   unfold Un;rw[AB<|by simp])
 unfold Oc;simp only[AS,AD,A6,h0,C9]
def agJ{k:AA}(sm:Eo k):Zb (tKp k,tKp k,())=I ((A1,()),()):=by
 unfold Zb;simp only[AS,A5,atQ sm.2.1 sm.2.2];rfl
def Wj{l:List A7}(hl:l.length<=1048576):Hz (l,l,())=I ((A1,()),()):=by
 have h0:gv (l,l,0,())=I (.inr ()):=
  CS (b:=Tu) (λk=>(l,l,(k:Int),())) l.length (λk hk=>by
   unfold Tu;simp only[AR hk,B7 hk,A5,MF,AS,CZ,AD,A6,B2 hk (by omega:l.length<=9223372036854775807)]) (by
   unfold Tu;rw[AB<|by simp])
 unfold Hz;simp only[AS,AD,A6,h0,C9]
def Iy{w:Am}(sm:SmR w):Hl (tR w,tR w,())=I ((A1,()),()):=by
 obtain⟨ti,ks,ls,ra,se,go⟩:=w;have k1:ks.length<=1048576:=sm.kl;have k2:ls.length<=1048576:=sm.l;have k3:ra.length<=1048576:=sm.rl;have h0:rj (tR ⟨ti,ks,ls,ra,se,go⟩,tR ⟨ti,ks,ls,ra,se,go⟩,0,())=I (.inr (tR ⟨ti,ks,ls,ra,se,go⟩,tR ⟨ti,ks,ls,ra,se,go⟩,())):=
  CS (b:=SP) (λk=>(tR ⟨ti,ks,ls,ra,se,go⟩,tR ⟨ti,ks,ls,ra,se,go⟩,(k:Int),())) ks.length (λk hk=>by
   unfold SP;have hc:=agJ<|Kw sm.k k;simp only[AR hk,B7 hk,A5,JL,hc,A9,AD,A6,B2 hk (by omega:ks.length<=9223372036854775807)]) (by
   unfold SP;simp only[Fe,A6])
 have h1:qO (tR ⟨ti,ks,ls,ra,se,go⟩,tR ⟨ti,ks,ls,ra,se,go⟩,0,())=I (.inr (tR ⟨ti,ks,ls,ra,se,go⟩,tR ⟨ti,ks,ls,ra,se,go⟩,())):=
  CS (b:=Ug) (λk=>(tR ⟨ti,ks,ls,ra,se,go⟩,tR ⟨ti,ks,ls,ra,se,go⟩,(k:Int),())) ls.length (λk hk=>by
   unfold Ug;simp only[AR hk,B7 hk,A5,AS,AD,A6,B2 hk (by omega:ls.length<=9223372036854775807)]) (by
   unfold Ug;simp only[Fe,A6])
 have h2:qY (tR ⟨ti,ks,ls,ra,se,go⟩,tR ⟨ti,ks,ls,ra,se,go⟩,0,())=I (.inr ()):=
  CS (b:=Sf) (λk=>(tR ⟨ti,ks,ls,ra,se,go⟩,tR ⟨ti,ks,ls,ra,se,go⟩,(k:Int),())) ra.length (λk hk=>by
   unfold Sf;simp only[AR hk,B7 hk,A5,AS,CZ,AD,A6,B2 hk (by omega:ra.length<=9223372036854775807)]) (by
   unfold Sf;simp only[Fe,A6])
 unfold Hl;rw[show Hz ((tR ⟨ti,ks,ls,ra,se,go⟩,tR ⟨ti,ks,ls,ra,se,go⟩,()).1.2.2.2.2.2.1,(tR ⟨ti,ks,ls,ra,se,go⟩,tR ⟨ti,ks,ls,ra,se,go⟩,()).2.1.2.2.2.2.2)=_ from Wj sm.gl];simp only[AS,AD,A6,Wj sm.sl,A9,h0,h1,h2,C9]
def azI:SmR zR:=⟨by decide,λ_ h=>(M7 h).elim,by decide,by decide,λ_ h=>(M7 h).elim,by decide,λ_ h=>(M7 h).elim,by decide,λ_ h=>(M7 h).elim⟩
def OV(w:Am)(e:Event):(FU w=A3/\Bt w e=(zR,A3))\/(FU w=A1/\Bt w e=(w,A3))\/(FU w=A1/\w.ti<99999/\(doM w e).2=A1/\Bt w e=(B8 w e,A1)):=by
 unfold Bt;rcases tf (FU w) with c|c
 .rw[c,A8 rfl];by_cases h:99999<=w.ti
  .rw[A8<|AZ h];exact .inr (.inl ⟨rfl,rfl⟩)
  .rw[AB<|nd h];rcases tf (doM w e).2 with d|d
   .rw[A8 d];exact .inr (.inr ⟨rfl,J,d,rfl⟩)
   .rw[AB (by rw[d];exact D0)];exact .inr (.inl ⟨rfl,rfl⟩)
 .rw[c,A6];exact .inl ⟨rfl,rfl⟩
def Sv{w:Am}(sm:SmR w)(e:Event):SmR (Bt w e).1:=by
 rcases OV w e with⟨_,h⟩|⟨_,h⟩|⟨h0,_,_,h⟩<;>rw[h]
 .exact azI
 .exact sm
 .exact(bG (I4 h0).1 e).sm
def Pf{w:Am}{e:Event}(h:(doM w e).2=A1):B8 w e=⟨w64<|w.ti+1,(doM w e).1.AK,(doM w e).1.B1,(doM w e).1.AU,(doM w e).1.BJ,(doM w e).1.got⟩:=by
 unfold B8 Hw;rw[h,A8 rfl,fU]
def sP{w:Am}{e:Event}(h:(doM w e).2=A1):(B8 w e).ti=w64 (w.ti+1):=by rw[Pf h]
def Ru{w:Am}{e:Event}(h:FU w=A1)(ht:w.ti<99999)(hd:(doM w e).2=A1):FU (B8 w e)=A1:=by
 obtain⟨h1,h2,h3⟩:=I4 h;have e1:w64 (w.ti+1)=w.ti+1:=Aa J J;exact adn (bG h1 e) (by rw[sP hd,e1];omega) (by rw[sP hd,e1];omega)
def Tot.val{α:Type}{o:Option α}{a:α}(h:Tot o (λx=>x=a)):o=I a:=by
 obtain⟨b,h1,h2⟩:=h;rw[h1,h2]
end Go.VS
end
