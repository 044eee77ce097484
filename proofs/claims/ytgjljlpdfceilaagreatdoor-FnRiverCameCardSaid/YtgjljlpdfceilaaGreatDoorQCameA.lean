/- Part 11. -/
import Derived.Test.YtgjljlpdfceilaaGreatDoorQAU
set_option linter.unusedVariables false
set_option linter.unusedSimpArgs false
set_option linter.defProp false
open Bool renaming and_eq_false_iff->KZ,and_eq_true->AD,and_true->Lh,false->A0,false_and->AP,false_ne_true->CY,not_eq_true'->Bz,not_true->AB,or_eq_false_iff->Mk,or_eq_true->Bp,or_self->Gk,true->Y,true_and->AU
open Decidable renaming decide->U
open Int renaming le_refl->Cr,le_trans->J7,not_lt->Rz,toNat_natCast->BX,toNat_of_nonneg->Nq
open List renaming append_assoc->C7,append_nil->CU,append_of_mem->Uu,drop_append_of_le_length->Uj,drop_drop->J5,drop_sublist->Rs,filter_append->Rl,filter_cons->KT,filter_nil->bJ,foldl_append->Gf,foldl_cons->E4,foldl_nil->KR,getD_eq_getElem?_getD->BA,getElem?_eq_getElem->Ar,getElem?_set->Pa,getElem_mem->CS,getElem_of_mem->Cv,length->j8,length_append->Ax,length_cons->Bf,length_map->Df,map_append->Em,mem_append->BL,mem_append_right->CR,mem_cons->Bm,mem_map->C1,mem_range->D4,mem_singleton->C8,mem_singleton_self->Ml,nodup_append->Jo,nodup_cons->IY,pairwise_cons->KW,pairwise_iff_getElem->Jj,pairwise_singleton->pG,range->B9,range_succ->IU,replicate->BT,take_append_drop->JA
open List.Sublist renaming append->pa,refl->Ek
open List.cons renaming inj->pY
open Nat renaming eq_zero_or_pos->Ui,le_refl->Aw,le_trans->Cc,lt_or_ge->Gl,lt_trichotomy->IX,not_lt_zero->pH,zero_le->D5
open Option renaming filter_eq_some_iff->Jk,none->G,some->I
open Option.some renaming inj->Ck
open Prod.mk renaming inj->J8
section
set_option linter.all false
noncomputable section
namespace Go.VS
open Go Go.Proofs Tryz
set_option maxRecDepth 100000
def apz:Cx:=cX [] [] []
def aDu:y8 apz:=y9<|AI
def la(x:List A3×Y4×v7):Rnd (List A3×Y4×v7) (Bool×D) D:=if U (x.2.2.1<(j8 x.1:Int)) then if inb x.2.2.1 x.1.length then if Mz ((rd y5 x.1 x.2.2.1).fr) ((rd y5 x.1 x.2.2.1).nu) ((rd y5 x.1 x.2.2.1).to) ((rd y5 x.1 x.2.2.1).un) ((rd y5 x.1 x.2.2.1).tx) x.2.1.1 x.2.1.2.1 x.2.1.2.2.1 x.2.1.2.2.2.1 x.2.1.2.2.2.2.1 then I (.inr<|.inl (Y,())) else I (.inl (x.1,x.2.1,(w64<|x.2.2.1+1),())) else G else I (.inr<|.inr ())
def aA3:=AS la
def aBc:Loop:=⟨[(0,.sl .note),(3,Z5),(5,j6)],[],0,[(4,.bool)],aA3⟩
def ap7:LF f19 [] [1,0,1,0,0] aBc:=sq (v:= .nil) aDu (b:=la) kN
def K8(x:List A3×Y4×D):Option ((Bool×D)×D):=(AM (aA3 (x.1,x.2.1,0,())) (λa=>I (a,())) λa=>I ((A0,()),()))
def YN:Ent:=(19,G,⟨[.fz .note,Z6],[.bool],K8⟩)
def wN:y7 YN:=sk (v:=t1<|.two (t1<|.one<|.loop aBc) .nil) (fn:=f19) aDu<|kC ap7 kN
def aje:Cx:=cX [IA,Sx] [] [(12,13)]
def aCR:y8 aje:=y9<|gC Ic<|gC Vy<|AI
def kH(x:Y2×Y4×aJM):Rnd (Y2×Y4×aJM) (Bool×D) D:=if(U<|x.2.2.2.1<4)&&(U<|0<=x.2.2.1) then if inb x.2.2.1 x.1.2.1.length then(FD (((rd aJN x.1.2.1 x.2.2.1).id,(rd aJN x.1.2.1 x.2.2.1).up,(rd aJN x.1.2.1 x.2.2.1).log,(rd aJN x.1.2.1 x.2.2.1).fo,(rd aJN x.1.2.1 x.2.2.1).AJ,()),())).bind λa=>if U (x.2.1.2.2.2.1<=a.1.1.2.1) then I (.inr<|.inl (A0,())) else(I6 (x.2.2.1,x.2.1.2.2.1,())).bind λb=>I (.inl (x.1,x.2.1,b.1.1,(w64<|x.2.2.2.1+1),())) else G else I (.inr<|.inr ())
def xn:=AS kH
def aA4:Loop:=⟨[(2,Z29),(3,Z5),(5,j6),(6,j6)],[],0,[(4,.bool)],xn⟩
def ajn:LF f21 [] [1,1,0,1,0,0] aA4:=sq (v:= .nil) aCR (b:=kH) kN
def iX(x:Y2×Y4×D):Option ((Bool×D)×D):=(AM (xn (x.1,x.2.1,x.2.1.1,0,())) (λa=>I (a,())) λa=>I ((Y,()),()))
def aC0:Ent:=(21,G,⟨[Z30,Z6],[.bool],iX⟩)
def aeY:y7 aC0:=sk (v:=t1<|t1<|.two (t1<|.one<|.loop aA4) .nil) (fn:=f21) aCR<|kC ajn kN
def adv:Cx:=cX [QD,QJ,QK,QL,Qa,IA,YN,aC0] [] []
def yb:y8 adv:=y9<|gC SV<|gC SW<|gC SZ<|gC Sa<|gC Sb<|gC Ic<|gC wN<|gC aeY<|AI
def uM(x:Y2×Y2×v7):Rnd (Y2×Y2×v7) (Bool×D) (Y2×Y2×D):=if U (x.2.2.1<(j8 x.2.1.2.2.2.2.1:Int)) then if inb x.2.2.1 x.2.1.2.2.2.2.1.length then let b:=(rd y5 x.2.1.2.2.2.2.1 x.2.2.1).fr;let c:=(rd y5 x.2.1.2.2.2.2.1 x.2.2.1).nu;let a:=(rd y5 x.2.1.2.2.2.2.1 x.2.2.1).to;let d:=(rd y5 x.2.1.2.2.2.2.1 x.2.2.1).un;let e:=(rd y5 x.2.1.2.2.2.2.1 x.2.2.1).tx;(iX (x.2.1,(b,c,a,d,e,()),())).bind λf=>if f.1.1 then(K8 (x.2.1.2.2.2.2.2.1,(b,c,a,d,e,()),())).bind λg=>if !g.1.1 then if inb a x.2.1.2.1.length then(FD (((rd aJN x.2.1.2.1 a).id,(rd aJN x.2.1.2.1 a).up,(rd aJN x.2.1.2.1 a).log,(rd aJN x.2.1.2.1 a).fo,(rd aJN x.2.1.2.1 a).AJ,()),())).bind λh=>(K8 (h.1.1.2.2.2.2.2.1,(b,c,a,d,e,()),())).bind λi=>if !i.1.1 then I (.inr<|.inl (A0,())) else I (.inl (x.1,x.2.1,(w64<|x.2.2.1+1),())) else G else I (.inl (x.1,x.2.1,(w64<|x.2.2.1+1),())) else I (.inl (x.1,x.2.1,(w64<|x.2.2.1+1),())) else G else I (.inr<|.inr (x.1,x.2.1,()))
def abm:=AS uM
def acA:Loop:=⟨[(5,Z29),(6,Z29),(7,j6)],[(5,Z29),(6,Z29)],0,[(2,.bool)],abm⟩
def aeL:LF f5 [] [1,1,1,1,1,1,1,0,1,0,0] acA:=sq (v:= .nil) yb (b:=uM) kN
def W7(x:List Int×D):Option ((Bool×D)×D):=if U (1048576<(j8 x.1:Int)) then I ((Y,()),()) else(Lx x).bind λc=>(N9 c.1).bind λd=>(M0 c.1).bind λb=>(M5 (b.1.1,d.1)).bind λe=>if !e.1.1 then I ((A0,()),()) else(L8 (b.1.1,4,())).bind λf=>(AM (abm (b.1.1,f.1.1,0,())) (λa=>I (a,())) (λa=>let g:=(U<|(j8 a.2.1.2.2.2.2.1:Int)=(j8 a.1.2.2.2.2.1:Int));I ((g,()),())))
def afM:Ent:=(5,G,⟨[.fz .u8],[.bool],W7⟩)
def aca:y7 afM:=sk (v:=t1<|t1<|t1<|t1<|t1<|t1<|t1<|.two (t1<|.one<|.loop acA) .nil) (fn:=f5) yb<|kC aeL kN
end Go.VS
end
end
section
set_option linter.all false
noncomputable section
namespace Go.VS
open Go
def Pz(a t:Int):Nat:=(a - t).natAbs
def o7{a t:Int}(ha:isN a=Y)(ht:isN t=Y)(hne:a≠t):Pz (BR a t) t+1=Pz a t:=by
 have:=E9 ha;have:=E9 ht;have e3:U (a=t)=A0:=by simpa using hne
 unfold BR Pz;simp only[ha,ht,e3,AB,Gk,A4];split<;>omega
end Go.VS
end
end
section
set_option linter.all false
noncomputable section
namespace Go.VS
open Go
def aHd{b:Nat}{list:List AT}:∀(n:Nat) (kn:List A1),Ce b kn->∀k,unk (Gz b list n kn) k=Y->unk kn k=Y
 | 0,_,_,_,h=>h
 | n+1,kn,h,k,hk=>by
  obtain⟨h1,h2,_⟩:=NP list (kn,A0) h;unfold Gz at hk;split at hk
  .exact h2 k (aHd n _ h1 k hk)
  .exact h2 k hk
def aFv{b:Nat}{k:Nat}:∀(list:List AT) (s:List A1×Bool),(∃m∈list,Iz m/\Bj (b:Int) m.nu=[k])->Ce b s.1->unk (list.foldl (CN b) s).1 k=A0
 | [],_,h,_=>by
  obtain⟨m,hm,_⟩:=h;cases hm
 | m::list,s,h,hk=>by
  rw[E4];have hs:Ce b (CN b s m).1:=by
   unfold CN;split
   .rename_i kn e;exact(UG hk e).1
   .exact hk
  obtain⟨x,hx,hf,hof⟩:=h;obtain rfl|hx:=Bm.1 hx
  .have h1:unk (CN b s x).1 k=A0:=by
    unfold CN FP;rw[A5 (by rw[AD];exact⟨hf.1,AW hf.2⟩),hof];unfold DP;rw[KT,bJ];obtain c|c:=tf (unk s.1 k)
    .have hul:k<s.1.length:=by
      have h3:=MD (b:=(b:Int)) (n:=x.nu) (k:=k) (by rw[hof];exact Ml k);rw[hk.1];omega
     simp only[c,A2];unfold unk;rw[UR _ hul,A5 rfl];refine BG λhh=> ?_;have h4:(B<|Ea s.1 [k] (L x.da)).size=4:=by
      rw[BS,nX hk (by have:=hf.2;rw[Az];omega) λj hj=>by rw[C8.1 hj,← hk.1];exact hul]
     rw[hh]at h4;cases h4
    .simp only[c,A4]
   obtain c|c:=tf (unk (list.foldl (CN b)<|CN b s x).1 k)
   .have:=(NP list (CN b s x) hs).2.1 k c;rw[h1]at this;cases this
   .exact c
  .exact aFv list _ ⟨x,hx,hf,hof⟩ hs
def ar4{b:Nat}{k:Nat}{list:List AT}(h:∃m∈list,Iz m/\Bj (b:Int) m.nu=[k])(n:Nat){kn:List A1}(hk:Ce b kn):unk (Gz b list (n+1) kn) k=A0:=by
 have h1:=aFv list (kn,A0) h hk;have h2:=(NP list (kn,A0) hk).1;unfold Gz;split
 .rcases tf (unk (Gz b list n (Iw b list kn).1) k) with c|c
  .have:=aHd n _ h2 k c;rw[h1]at this;cases this
  .exact c
 .exact h1
def ar5{b:Nat}{k:Nat}(hb:inB (b:Int) 1 6=Y)(hk:k<b):Bj (b:Int) (k:Int)=[k]:=by
 have h:=Aa.1 hb;unfold Bj Dy;rw[hb,A5 (by rw[AU];exact Aa.2 J),A5<|AW J,BX]
def aH9{tx:A1}(h:inB tx.size 1 24=Y){n:Int}(hn:inB n 0 999=Y):Iz ⟨n,GZ tx n⟩:=by
 refine⟨hn, ?_⟩;show((GZ tx n).size:Int)=4;rw[aHs h hn,BS,Qy λk _=>P9 _ k];rfl
def arD{tx:A1}(h:inB tx.size 1 24=Y){list:List AT}(hl:Pw tx list)(hf:∀k:Nat,k<(tx.size+3) / 4->∃m∈list,Iz m/\Bj (((tx.size+3) / 4:Nat):Int) m.nu=[k]):FO tx.size list=(tx,Y):=by
 rw[aHK h,BX];have h1:=Zy list 7 _<|Ce.new<|(tx.size+3) / 4;have h2:=mv (λk=>P9 (L tx) k) (aHg h hl) 7 _ (Ce.new<|(tx.size+3) / 4)<|aai _ _;have h3:∀k,k<(tx.size+3) / 4->unk (Gz ((tx.size+3) / 4) list 7<|BT ((tx.size+3) / 4) noB) k=A0:=λk hk=>ar4 (hf k hk) 6<|Ce.new<|(tx.size+3) / 4;rw[aaj h1 h2 h3,qc (by
  intro x hx;obtain⟨k,_,rfl⟩:=C1.1 hx;exact P9 _ _)]
 exact aHI h
def avN(f:Frame):Mg ⟨f.fr,f.nu,f.to,f.un,f.sz,[]⟩ f=Y:=by
 unfold Mg;simp
def aC{l:List A3}{f n:Int}{x:A3}(h:x∈l)(h1:x.fr=f)(h2:x.nu=n):0<=AY l f n:=by
 obtain h3|h3:=mw l f n
 .exact absurd ⟨h1,h2⟩ (U4 J x h)
 .exact h3
def abM{k o:AE}{n:A3}(hk:Av k=Y)(hn:Ay n=Y)(h:BK k (JT n)=I o):amm k o n:=by
 rw[n8 hk hn]at h;have h:=(Jk.1 h).1;split at h
 .cases h
 unfold Eh at h;split at h
 .cases h
 split at h
 .cases h
 split at h
 .cases h
 split at h
 .cases h
 split at h
 .cases h
 split at h
 .cases h
 split at h
 .rename_i h1;cases h;exact⟨rfl,rfl,rfl,.inl ⟨BV h1,rfl,rfl,rfl⟩⟩
 .rename_i h1;cases h;exact⟨rfl,rfl,rfl,.inr ⟨by simpa using h1,rfl,rfl,rfl⟩⟩
def NV{st:AE}(h:Av st=Y){n:A3}(hn:n∈st.held):Ec st.id n.fr n.to=Y/\st.ti<n.un/\Br st.marks n.fr n.nu<0:=by
 obtain⟨j,hj,rfl⟩:=Cv hn;have:=(Bv h).ho j hj;unfold HO at this;simp only[AD,decide_eq_true_eq]at this;rw[show nA st.held j=st.held[j] by rw[nA,BA,Ar hj];rfl]at this;exact⟨this.2.2.1,this.2.1,this.2.2.2⟩
def NR{n:A3}(h:Ay n=Y):isN n.fr=Y/\isN n.to=Y/\inB n.nu 1 99=Y/\inB n.un 1 999=Y/\Lk n.tx=Y:=by
 unfold Ay at h;simp only[AD]at h;exact h
def P2{a f t:Int}(ha:isN a=Y)(hf:isN f=Y)(ht:isN t=Y)(h:Ec a f t=Y):isN (BR a t)=Y/\BR a t≠f/\(BR a t≠t->Ec (BR a t) f t=Y):=by
 have ra:=E9 ha;have rf:=E9 hf;have rt:=E9 ht;unfold Ec at h;simp only[AD,Bz,decide_eq_false_iff_not,Bp,Aa]at h;have e:BR a t=if a<t then a+1 else a - 1:=by
  unfold BR;rw[ha,ht,BG h.1];rfl
 rw[e];refine⟨?_, ?_,λhne=> ?_⟩
 .split
  .exact Aa.2 J
  .exact Aa.2 J
 .split<;>omega
 .unfold Ec;simp only[AD,Bz,decide_eq_false_iff_not,Bp,Aa];refine⟨hne, ?_⟩;split at hne
  .left;rw[A5<|by assumption];omega
  .right;rw[A9<|by assumption];omega
def BB(id:Int)(n:A3)(m:Int):Frame:=⟨1,id,BR id n.to,n.fr,n.nu,n.to,n.un,n.tx.size,m,GZ n.tx m⟩
def nk{id:Int}{n:A3}{m:Int}(hi:isN id=Y)(hn:Ay n=Y)(hw:Ec id n.fr n.to=Y)(hm:inB m 0 999=Y):C2 (BB id n m)=Y:=by
 have r:=NR hn;have hx:=P2 hi r.1 r.2.1 hw;have hf:=aH9 (MQ hn) hm;unfold C2 JX BB;simp only[hi,hx.1,r.1,r.2.1,r.2.2.1,r.2.2.2.1,AX,A2,MQ hn,hm,AU];rw[Lh];exact AW hf.2
def arY{tx:A1}{i:Nat}{m:AT}(h:m∈FI tx i):∃j:Nat,j<i/\m=⟨(j:Int),GZ tx (j:Int)⟩:=by
 obtain⟨j,hj,rfl⟩:=C1.1 h;exact⟨j,D4.1 hj,rfl⟩
def ns(k:A7)(f:Frame):(CF k f).2=[]\/(C2 f=Y/\f.ki=1/\Ag k=Y/\ ∃n,(n=2\/n=3)/\(CF k f).2=[Dm n f]):=by
 unfold CF;split
 .rename_i hok;unfold HS;split
  .rename_i hc;simp only[AD]at hc;split
   .rename_i h1;have h1:=BV h1;unfold EB;split
    .exact .inr ⟨hc.2.1,h1,hok,3,.inr rfl,rfl⟩
    .split
     .exact .inr ⟨hc.2.1,h1,hok,2,.inl rfl,rfl⟩
     .split
      .exact .inl rfl
      .unfold Jc;split
       .split
        .unfold JV;split
         .exact .inr ⟨hc.2.1,h1,hok,2,.inl rfl,rfl⟩
         .exact .inl rfl
        .exact .inl rfl
       .exact .inl rfl
   .split<;>exact .inl rfl
  .exact .inl rfl
 .exact .inl rfl
def rT{f:Frame}(h:C2 f=Y)(h1:f.ki=1){n:Int}(hn:n=2\/n=3):C2 (Dm n f)=Y:=by
 obtain⟨a,b,c,d,e,g,t⟩:=P5 h;have h3:=(Yx h h1).2.2;unfold C2 JX Dm;simp only[a,b,c,d,e,g,AU];rw[A9 (by
  obtain rfl|rfl:=hn
  .show ¬(U ((2:Int)=1)=Y);decide
  .show ¬(U ((3:Int)=1)=Y);decide)]
 rw[← h3];obtain rfl|rfl:=hn<;>simp
noncomputable abbrev tiK(k:A7):Int:=(stT k).ti
def aao{k o:AE}{n:A3}(h:Eh k n=I o):o.ti=k.ti:=by
 unfold Eh at h
 (repeat' split at h)<;>first|(cases h;done)|(cases h;rfl)
def avA{k o:AE}{w r:A1}(hw:w≠ED)(h:Bb k w r=I o):o.ti=k.ti:=by
 unfold Bb at h;split at h
 .split at h
  .unfold Hy at h;rw[BG hw,AP,A4]at h;split at h<;>cases h;rfl
  .cases h
 .split at h
  .split at h
   .unfold GS at h;split at h
    .have:=aao h;exact this
    .split at h
     .exact aao h
     ·(repeat' split at h)<;>first|(cases h;done)|(cases h;rfl)
   .cases h
  .split at h
   .split at h
    .unfold F1 at h
     (repeat' split at h)<;>first|(cases h;done)|(cases h;rfl)
    .cases h
   .cases h
def aw6{k o:AE}(hk:Av k=Y){rec:A1}{w r:List UInt8}(hn:Cb w)(e:L rec=w++32::r)(hw:B w≠ED)(h:BK k rec=I o):o.ti=k.ti:=by
 have:=((IC hk).1 h).1;rw[IH hn e]at this;exact avA hw this
def ab7{x:A7}{rec:A1}{w r:List UInt8}{b:Bool}(hx:Ag x=Y)(hn:Cb w)(e:L rec=w++32::r)(hw:B w≠ED):tiK (wrR x rec b).1=tiK x:=by
 have hk:=Bs hx;unfold wrR;split
 .rfl
 .rename_i o ho;have h1:=(PO hk ho).stT;have h2:=aw6 hk.kok hn e hw ho;split
  .show(stT<|wrM x rec).ti=_;rw[h1];exact h2
  .show(stT<|wrM x rec).ti=_;rw[h1];exact h2
def axE{k:A7}(h:Ag k=Y)(f:Frame):tiK (CF k f).1=tiK k:=by
 unfold CF HS;rw[A5 h];split
 .rename_i hc;simp only[AD]at hc;split
  .rename_i h1;unfold EB;split
   .rfl
   split
   .rfl
   split
   .rfl
   unfold Jc;split
   .split
    .unfold JV;have hd:=(cP h hc.1 hc.2.1<|BV h1).ok;split
     .exact ab7 hd nK (aHE _) aJT
     .rfl
    .rfl
   .rfl
  .split
   .exact ab7 h aHj (Qt _ _ _ _) aJT
   .rfl
 .rfl
def PD{l:List A3}{n:A3}(hl:l.length<=1000):Tot (K8 (l,(n.fr,n.nu,n.to,n.un,n.tx,()),())) λr=>r.1.1=Y↔n∈l:=by
 unfold K8;refine Tot.sum (P:=λy=>y.1=Y/\n∈l) (Q:=λ_=>n ∉ l) ?_ (λy hy=>Tot.ret ⟨λ_=>hy.2,λ_=>hy.1⟩) (λy hy=>Tot.ret ⟨(λh=>by cases h),λh=>absurd h hy⟩);refine Tot.loop (λi s=>s=(l,(n.fr,n.nu,n.to,n.un,n.tx,()),(i:Int),())/\ ∀j,j<i->nA l j≠n) _ l.length (λi s hi hs=> ?_) ⟨rfl,λj hj=>absurd hj<|pH _⟩;obtain⟨rfl,hs⟩:=hs;unfold la;refine Tot.ite (λhc=> ?_) (λhc=> ?_)
 .have hc:(i:Int)<(j8 l:Int):=BV hc;have hi':i<l.length:=J
  refine Tot.pos (AR hi') (Tot.ite (λhe=>Tot.ret ⟨rfl, ?_⟩) λhe=>Tot.ret ⟨hi',by rw[show w64 ((i:Int)+1)=_ from LY rfl J],λj hj=> ?_⟩)
  .have he:Mz (nA l i).fr (nA l i).nu (nA l i).to (nA l i).un (nA l i).tx n.fr n.nu n.to n.un n.tx=Y:=he;unfold Mz at he;simp only[AD,decide_eq_true_eq]at he;have:nA l i=n:=by
    cases hN:nA l i;cases n;rw[hN]at he;simp only at he;obtain⟨rfl,rfl,rfl,rfl,rfl,_⟩:=he;rfl
   rw[← this];exact EX hi'
  .rcases Gl j i with h|h
   .exact hs j h
   .have:j=i:=J
    subst this;intro e;have he:Mz (nA l j).fr (nA l j).nu (nA l j).to (nA l j).un (nA l j).tx n.fr n.nu n.to n.un n.tx=A0:=he;rw[e]at he;unfold Mz at he;simp at he
 .have hc:¬(i:Int)<(j8 l:Int):=J3 hc;refine Tot.ret λhn=> ?_;obtain⟨j,hj,e⟩:=Cv hn;refine hs j J ?_;rw[← e,nA,BA,Ar hj];rfl
def ayN{l:List Mark}{x:Mark}(h:x∈l):∃i,i<l.length/\mA l i=x:=by
 obtain⟨i,hi,e⟩:=Cv h;exact⟨i,hi,by rw[mA,BA,Ar hi];exact e⟩
end Go.VS
end
end
section
set_option linter.all false
noncomputable section
namespace Go.VS
open Go
def rP{α:Type}{R:α->α->Prop}{f:α->Bool}{n:α}:∀ {l:List α},l.Pairwise R->(∀x∈l,f x=Y->R x n)->(∀x∈l,f x=A0->R n x)->(∀x y,R n x->R x y->R n y)->(ins f l n).Pairwise R
 | [],_,_,_,_=>pG _ _
 | x::l,h,h1,h2,h3=>by
  obtain⟨a,b⟩:=KW.1 h;obtain c|c:=tf (f x)
  .have e:ins f (x::l) n=x::ins f l n:=by unfold ins;simp[c]
   rw[e,KW];refine⟨λy hy=> ?_,rP b (λy hy=>h1 y<|.tail _ hy) (λy hy=>h2 y<|.tail _ hy) h3⟩;obtain rfl|hy:=Gu _ hy
   .exact h1 x (.head _) c
   .exact a y hy
  .have e:ins f (x::l) n=n::x::l:=by unfold ins;simp[c]
   rw[e,KW];refine⟨λy hy=> ?_,h⟩;have hx:=h2 x (.head _) c;cases hy with
   | head=>exact hx
   | tail _ hy=>exact h3 _ _ hx<|a y hy
abbrev RN(a b:A3):Prop:=bef a.fr a.nu b.fr b.nu=Y
abbrev RM(a b:Mark):Prop:=bef a.mf a.mn b.mf b.mn=Y
def aam{a b c d:Int}(h:¬(a=c/\b=d))(g:bef a b c d=A0):bef c d a b=Y:=by
 unfold bef at *;simp only[Mk,KZ,decide_eq_false_iff_not,Bp,AD,decide_eq_true_eq]at *;omega
def aA{l:List A3}(h:DV l=Y):l.Pairwise RN:=by
 rw[Jj];intro i j hi hj hij;have:=TU h j i hij hj;rw[DF<|Ar hi,DF<|Ar hj]at this;exact this
def aHh{l:List A3}(h:l.Pairwise RN)(g:∀x∈l,Ay x=Y):DV l=Y:=by
 unfold DV;rw[CC];intro i hi;rw[DF<|Ar hi,g _ (CS hi),AU,Bp,decide_eq_true_eq];obtain c|c:=Ui i
 .exact .inl c
 .right;rw[DF<|Ar (J:i - 1<l.length)];exact Jj.1 h (i - 1) i J hi J
def aHn{l:List Mark}(h:Fa l=Y):l.Pairwise RM:=by
 have key:∀(j i:Nat),i<j->j<l.length->bef (mA l i).mf (mA l i).mn (mA l j).mf (mA l j).mn=Y:=by
  intro j
  induction j with
  | zero=>intro i h;omega
  | succ j ih=>
   intro i hij hj;have h1:=CC.1 h (j+1) hj;simp only[AD,Bp,decide_eq_true_eq]at h1;have h2:bef (mA l j).mf (mA l j).mn (mA l<|j+1).mf (mA l<|j+1).mn=Y:=h1.2.resolve_left J;obtain h3|h3:=Gl i j
   .exact Tw (ih i h3 J) h2
   .rwa[show i=j by omega]
 rw[Jj];intro i j hi hj hij;have:=key j i hij hj;rw[Fw<|Ar hi,Fw<|Ar hj]at this;exact this
def avv{l:List Mark}(h:l.Pairwise RM)(g:∀x∈l,FA x=Y):Fa l=Y:=by
 unfold Fa;rw[CC];intro i hi;rw[Fw<|Ar hi,g _ (CS hi),AU,Bp,decide_eq_true_eq];obtain c|c:=Ui i
 .exact .inl c
 .right;rw[Fw<|Ar (J:i - 1<l.length)];exact Jj.1 h (i - 1) i J hi J
def aH3{l:List A3}{n:A3}(h:DV l=Y)(hn:Ay n=Y)(h0:∀x∈l,¬(x.fr=n.fr/\x.nu=n.nu)):DV (E3 l n)=Y:=by
 refine aHh (rP (aA h) (λ_ _ c=>c) (λx hx c=>aam (h0 x hx) c) λ_ _ a b=>Tw a b) (λx hx=> ?_);obtain rfl|hx:=Gu _ hx
 .exact hn
 .exact Qi h hx
def aH6{l:List Mark}{m:Mark}(h:Fa l=Y)(hm:FA m=Y)(h0:∀x∈l,¬(x.mf=m.mf/\x.mn=m.mn)):Fa (EL l m)=Y:=by
 refine avv (rP (aHn h) (λ_ _ c=>c) (λx hx c=>aam (h0 x hx) c) λ_ _ a b=>Tw a b) (λx hx=> ?_);obtain rfl|hx:=Gu _ hx
 .exact hm
 .exact aE6 h hx
def aJi(l:List A3)(i:Nat):(Ef l i).Sublist l:=by
 unfold Ef;have h:(l.take i++l.drop (i+1)).Sublist (l.take i++l.drop i):=by
  refine pa (Ek _) ?_;rw[← J5];exact Rs _ _
 rwa[JA]at h
def atC{l:List A3}(h:DV l=Y)(i:Nat):DV (Ef l i)=Y:=
 aHh ((aA h).sublist<|aJi l i) (λx hx=>Qi h<|Oz hx)
def n7{k:AE}(id:isN k.id=Y)(ti:inB k.ti 0 999=Y)(nx:inB k.nx 1 100=Y)(hl:k.held.length<=6)(h:DV k.held=Y)(ml:k.marks.length<=12)(m:Fa k.marks=Y)(il:k.inbox.length<=6)(i:DV k.inbox=Y)
  (ho:∀n∈k.held,¬(n.fr=k.id/\k.nx<=n.nu)/\k.ti<n.un/\Ec k.id n.fr n.to=Y/\ ∀x∈k.marks,¬(x.mf=n.fr/\x.mn=n.nu))
  (mo:∀x∈k.marks,k.ti<x.mu/\ ¬(x.mf=k.id/\k.nx<=x.mn))(io:∀n∈k.inbox,n.to=k.id/\ ¬(n.fr=k.id/\k.nx<=n.nu)/\(k.ti<n.un->∃x∈k.marks,x.mf=n.fr/\x.mn=n.nu)):Av k=Y:=by
 unfold Av;simp only[AD,decide_eq_true_eq,CC];refine⟨id,ti,nx,⟨J,h⟩,⟨J,m⟩,⟨J,i⟩,λj hj=> ?_,λj hj=> ?_,λj hj=> ?_⟩
 .obtain⟨a,b,c,d⟩:=ho _<|EX hj;unfold HO;simp only[AD,Bz,decide_eq_true_eq,KZ,decide_eq_false_iff_not];refine⟨?_,b,c,by rw[nS d];decide⟩;by_cases e:(nA k.held j).fr=k.id
  .exact .inr λg=>a ⟨e,g⟩
  .exact .inl e
 .obtain⟨a,b⟩:=mo _<|V9 hj;unfold JP;simp only[AD,Bz,decide_eq_true_eq,KZ,decide_eq_false_iff_not];refine⟨a, ?_⟩;by_cases e:(mA k.marks j).mf=k.id
  .exact .inr λg=>b ⟨e,g⟩
  .exact .inl e
 .obtain⟨a,b,c⟩:=io _<|EX hj;unfold It;simp only[AD,Bp,Bz,decide_eq_true_eq,KZ,decide_eq_false_iff_not];refine⟨a, ?_, ?_⟩
  .by_cases e:(nA k.inbox j).fr=k.id
   .exact .inr λg=>b ⟨e,g⟩
   .exact .inl e
  .by_cases e:k.ti<(nA k.inbox j).un
   .obtain⟨x,x1,x2,x3⟩:=c e;exact .inr (qD x1 x2 x3)
   .exact .inl e
def TQ{k:AE}(h:Av k=Y){n:A3}(hn:n∈k.held):¬(n.fr=k.id/\k.nx<=n.nu)/\k.ti<n.un/\Ec k.id n.fr n.to=Y/\ ∀x∈k.marks,¬(x.mf=n.fr/\x.mn=n.nu):=by
 obtain⟨i,hi,e⟩:=cE hn;have:=(Bv h).ho i hi;unfold HO at this;rw[e]at this;simp only[AD,Bz,decide_eq_true_eq,KZ,decide_eq_false_iff_not]at this;exact⟨λc=>by obtain d|d:=this.1<;>first|exact d c.1|exact d c.2,this.2.1,this.2.2.1,qC this.2.2.2⟩
def mX{k:AE}(h:Av k=Y){m:Mark}(hm:m∈k.marks):k.ti<m.mu/\ ¬(m.mf=k.id/\k.nx<=m.mn):=by
 obtain⟨i,hi,e⟩:=ayN hm;have:=(Bv h).mo i hi;unfold JP at this;rw[e]at this;simp only[AD,Bz,decide_eq_true_eq,KZ,decide_eq_false_iff_not]at this;exact⟨this.1,λc=>by obtain d|d:=this.2<;>first|exact d c.1|exact d c.2⟩
def Yo{k:AE}(h:Av k=Y){n:A3}(hn:n∈k.inbox):n.to=k.id/\ ¬(n.fr=k.id/\k.nx<=n.nu)/\(k.ti<n.un->∃x∈k.marks,x.mf=n.fr/\x.mn=n.nu):=by
 obtain⟨i,hi,e⟩:=cE hn;have:=(Bv h).io i hi;unfold It at this;rw[e]at this;simp only[AD,Bp,Bz,decide_eq_true_eq,KZ,decide_eq_false_iff_not]at this;refine⟨this.1,λc=>by obtain d|d:=this.2.1<;>first|exact d c.1|exact d c.2,λc=> ?_⟩;obtain d|d:=this.2.2
 .exact absurd c d
 .obtain⟨j0,_,j2,j3⟩:=bf d;exact⟨_,V9 j0,j2,j3⟩
def asp{k:AE}{n:A3}(hk:Av k=Y)(hn:Ay n=Y)(hf:n.fr≠k.id)(ht:k.ti<n.un)(h1:∀x∈k.held,¬(x.fr=n.fr/\x.nu=n.nu))(h2:∀x∈k.inbox,¬(x.fr=n.fr/\x.nu=n.nu))(h3:∀x∈k.marks,¬(x.mf=n.fr/\x.mn=n.nu))
  (hl:k.held.length+k.marks.length+1<=6)(il:k.inbox.length+1<=6)(hw:n.to≠k.id->Ec k.id n.fr n.to=Y):∃o,BK k (JT n)=I o:=by
 have kf:=Bv hk;have r:=TY hn;have d1:¬0<=AY k.held n.fr n.nu:=λc=>by obtain⟨j,_,a,b⟩:=FK c;exact h1 _ (EX j) ⟨a,b⟩
 have d2:¬0<=AY k.inbox n.fr n.nu:=λc=>by obtain⟨j,_,a,b⟩:=FK c;exact h2 _ (EX j) ⟨a,b⟩
 have d3:¬0<=Br k.marks n.fr n.nu:=λc=>by obtain⟨j,_,a,b⟩:=bf c;exact h3 _ (V9 j) ⟨a,b⟩
 rw[n8 hk hn,A9 hf];unfold Eh;rw[hn,AB,A4,BG J,A4,BG d1,A4,BG d2,A4,BG d3,A4,
  BG (J:¬(12:Int)<(j8 k.held:Int)+k.marks.length+1),A4]
 have hid:isN k.id=Y:=Aa.2 ⟨kf.id0,kf.id1⟩;have hti:inB k.ti 0 999=Y:=Aa.2 ⟨kf.t0,kf.t1⟩;have hnx:inB k.nx 1 100=Y:=Aa.2 ⟨kf.n0,kf.n1⟩;by_cases e:n.to=k.id
 .rw[A5<|AW e];refine⟨_,Jk.2 ⟨rfl,n7 hid hti hnx kf.hl kf.h ?_ ?_ ?_ (aH3 kf.i hn h2) (λx hx=> ?_) (λx hx=> ?_) λx hx=> ?_⟩⟩
  .show(EL _ _).length<=12;unfold EL;rw[Om];omega
  .exact aH6 kf.m (by unfold FA;simp[r.2.2.2.1,r.2.2.2.2.2.1,r.2.2.2.2.2.2.1]) h3
  .show(E3 _ _).length<=6;unfold E3;rw[Om];omega
  .obtain⟨a,b,c,d⟩:=TQ hk hx;refine⟨a,b,c,λy hy=> ?_⟩;obtain rfl|hy:=Gu _ hy
   .exact λc=>h1 x hx ⟨c.1.symm,c.2.symm⟩
   .exact d y hy
  .rcases Gu _ hx with rfl|hx
   .exact⟨ht,λc=>hf c.1⟩
   .exact mX hk hx
  .rcases Gu _ hx with rfl|hx
   .exact⟨e,λc=>hf c.1,λ_=>⟨_,Is _<|.inl rfl,rfl,rfl⟩⟩
   .obtain⟨a,b,c⟩:=Yo hk hx;refine⟨a,b,λh=> ?_⟩;obtain⟨y,y1,y2⟩:=c h;exact⟨y,Is _<|.inr y1,y2⟩
 .rw[BG e,A4];refine⟨_,Jk.2 ⟨rfl,n7 hid hti hnx ?_ (aH3 kf.h hn h1) kf.ml kf.m kf.il kf.i (λx hx=> ?_) (λx hx=>mX hk hx) λx hx=>Yo hk hx⟩⟩
  .show(E3 _ _).length<=6;unfold E3;rw[Om];omega
  .rcases Gu _ hx with rfl|hx
   .exact⟨λc=>hf c.1,ht,hw e,h3⟩
   .exact TQ hk hx
def aw2{k:AE}{n:A3}(hk:Av k=Y)(hn:n∈k.held)(hl:k.held.length+k.marks.length<=6):∃o,BK k (Ca C0 n.fr n.nu n.un)=I o/\ ∀x∈o.held,¬(x.fr=n.fr/\x.nu=n.nu):=by
 have kf:=Bv hk;have nok:=Qi kf.h hn;have r:=TY nok;have h0:=aC hn rfl rfl;obtain⟨j0,j1,j2,j3⟩:=FK h0;have hu:∀x∈k.held,x.fr=n.fr->x.nu=n.nu->x=n:=λx hx a b=>by
  obtain⟨i,hi,e⟩:=Cv hx;obtain⟨j,hj,e'⟩:=Cv hn;have pw:=Jj.1<|aA kf.h;obtain c|c|c:=IX i j
  .have:=pw i j hi hj c;rw[e,e',RN,a,b,PU]at this;cases this
  .subst c;rw[← e,← e']
  .have:=pw j i hj hi c;rw[e,e',RN,a,b,PU]at this;cases this
 have en:=hu _ (EX j0) j2 j3;rw[aGX hk J J J];have hit:EM k.held ⟨n.fr,n.nu,n.un⟩=Y:=by
  unfold EM;rw[AW h0,en,AW rfl];rfl
 rw[A5 hit];obtain⟨a,b,_,d⟩:=TQ hk hn;have gone:∀x∈Ef k.held (AY k.held n.fr n.nu).toNat,¬(x.fr=n.fr/\x.nu=n.nu):=λx hx c=>by
  have:=hu x (Oz hx) c.1 c.2;subst this;have:=aJj kf.h j0;rw[en]at this;exact this hx
 refine⟨_,Jk.2 ⟨rfl,n7 (Aa.2 ⟨kf.id0,kf.id1⟩) (Aa.2 ⟨kf.t0,kf.t1⟩) (Aa.2 ⟨kf.n0,kf.n1⟩) ?_ (atC kf.h _) ?_ ?_ kf.il kf.i (λx hx=> ?_) (λx hx=> ?_) λx hx=> ?_⟩,gone⟩
 .exact Cc (aJi _ _).length_le kf.hl
 .show(EL _ _).length<=12;unfold EL;rw[Om];omega
 .exact aH6 kf.m (by unfold FA;simp[r.2.2.2.1,r.2.2.2.2.2.1,r.2.2.2.2.2.2.1]) d
 .obtain⟨a,b,c,d⟩:=TQ hk<|Oz hx;refine⟨a,b,c,λy hy=> ?_⟩;obtain rfl|hy:=Gu _ hy
  .exact λc=>gone x hx ⟨c.1.symm,c.2.symm⟩
  .exact d y hy
 .rcases Gu _ hx with rfl|hx
  .exact⟨b,a⟩
  .exact mX hk hx
 .obtain⟨a,b,c⟩:=Yo hk hx;refine⟨a,b,λh=> ?_⟩;obtain⟨y,y1,y2⟩:=c h;exact⟨y,Is _<|.inr y1,y2⟩
def aU{α:Type}:∀ {l s:List α},l.Nodup->(∀x∈l,x∈s)->l.length<=s.length
 | [],_,_,_=>D5 _
 | x::l,s,h,g=>by
  obtain⟨a,b⟩:=IY.1 h;obtain⟨s1,s2,rfl⟩:=Uu<|g x<|.head _;have:=aU (l:=l) (s:=s1++s2) b (λy hy=>by
   have hy':=g y<|.tail _ hy;rw[BL,Bm]at hy';rw[BL];obtain c|c|c:=hy'
   .exact .inl c
   .subst c;exact absurd hy a
   .exact .inr c)
  simp only[Ax,Bf]at this ⊢;omega
def idN(n:A3):Int×Int:=(n.fr,n.nu)
def idM(m:Mark):Int×Int:=(m.mf,m.mn)
def aGg{l:List A3}(h:DV l=Y):(l.map idN).Nodup:=by
 unfold List.Nodup;rw[List.pairwise_map];refine(aA h).imp (fun {a b} r e=> ?_);have e1:=(J8 e).1;have e2:=(J8 e).2;rw[RN,e1,e2,PU]at r;cases r
def auJ{l:List Mark}(h:Fa l=Y):(l.map idM).Nodup:=by
 unfold List.Nodup;rw[List.pairwise_map];refine(aHn h).imp (fun {a b} r e=> ?_);have e1:=(J8 e).1;have e2:=(J8 e).2;rw[RM,e1,e2,PU]at r;cases r
def LJ{w:AA}(v:Inv w)(ok:B4 w){i:Nat}(hi:i<4){n:A3}(h:n∈(sT w i).held):n∈w.AN:=v.hs i hi n<|((v.lo i hi).lf (ok.k i hi).1).held n h
def aIV{w:AA}(ok:B4 w){i:Nat}(hi:i<4):((sT w i).held.map idN++(sT w i).marks.map idM).Nodup:=by
 have hk:=FL ok hi;have kf:=Bv hk;rw[Jo];refine⟨aGg kf.h,auJ kf.m,λa ha b hb e=> ?_⟩;obtain⟨n,hn,rfl⟩:=C1.1 ha;obtain⟨m,hm,rfl⟩:=C1.1 hb;have e1:=(J8 e).1;have e2:=(J8 e).2;exact(TQ hk hn).2.2.2 m hm ⟨e1.symm,e2.symm⟩
def aa4{w:AA}(v:Inv w)(ok:B4 w){i:Nat}(hi:i<4):∀x∈(sT w i).held.map idN++(sT w i).marks.map idM,x∈w.AN.map idN:=λx hx=>by
 obtain hx|hx:=BL.1 hx
 .obtain⟨n,hn,rfl⟩:=C1.1 hx;exact C1.2 ⟨n,LJ v ok hi hn,rfl⟩
 .obtain⟨m,hm,rfl⟩:=C1.1 hx;obtain⟨n,h1,h2,_⟩:=v.mrk i hi m hm;exact C1.2 ⟨n,h1,by rw[h2];rfl⟩
def azP{w:AA}(v:Inv w)(ok:B4 w){i:Nat}(hi:i<4):(sT w i).held.length+(sT w i).marks.length<=6:=by
 have:=aU (aIV ok hi)<|aa4 v ok hi;have:=ok.sl;simp only[Ax,Df]at *;omega
def avO{w:AA}(v:Inv w)(ok:B4 w){i:Nat}(hi:i<4){n:A3}(hn:n∈w.AN)(h1:∀x∈(sT w i).held,¬(x.fr=n.fr/\x.nu=n.nu))(h3:∀x∈(sT w i).marks,¬(x.mf=n.fr/\x.mn=n.nu)):
  (sT w i).held.length+(sT w i).marks.length+1<=6:=by
 have:=aU (l:=idN n::((sT w i).held.map idN++(sT w i).marks.map idM)) (s:=w.AN.map idN) (IY.2 ⟨λhx=>by
  obtain hx|hx:=BL.1 hx
  .obtain⟨x,hx,e⟩:=C1.1 hx;exact h1 x hx ⟨(J8 e).1,(J8 e).2⟩
  .obtain⟨x,hx,e⟩:=C1.1 hx;exact h3 x hx ⟨(J8 e).1,(J8 e).2⟩,aIV ok hi⟩) (λx hx=>by
  cases hx with
  | head=>exact C1.2 ⟨n,hn,rfl⟩
  | tail _ hx=>exact aa4 v ok hi x hx)
 have:=ok.sl;simp only[Ax,Df,Bf]at *;omega
def avP{w:AA}(v:Inv w)(ok:B4 w){i:Nat}(hi:i<4){n:A3}(hn:n∈w.AN)(h2:∀x∈(sT w i).inbox,¬(x.fr=n.fr/\x.nu=n.nu)):(sT w i).inbox.length+1<=6:=by
 have:=aU (l:=idN n::(sT w i).inbox.map idN) (s:=w.AN.map idN) (IY.2 ⟨λhx=>by
  obtain⟨x,hx,e⟩:=C1.1 hx;exact h2 x hx ⟨(J8 e).1,(J8 e).2⟩,aGg (Bv<|FL ok hi).i⟩) (λx hx=>by
  cases hx with
  | head=>exact C1.2 ⟨n,hn,rfl⟩
  | tail _ hx=>
   obtain⟨y,hy,rfl⟩:=C1.1 hx;exact C1.2 ⟨y,(v.bx i hi y hy).1,rfl⟩)
 have:=ok.sl;simp only[Df,Bf]at *;omega
def UQ{w:AA}{p:AL}{ps:List AL}(h:w.AQ=p::ps)(n:Nat):dlv (n+1) w=dlv n (Ab w eBr):=by
 show(if w.AQ.length=0 then w else dlv n (Ab w eBr))=_;rw[A9 (by rw[h];simp)]
def Cm.rv{w:AA}(c:Cm w):B4 w:=(Cw c.ok).1
def MA{w:AA}(h:Aq w=Y)(v:Inv w)(e:Event):Aq (Ab w e)=Y/\Inv (Ab w e):=ng (l:=[e]) h v
def PG{w:AA}{e:Event}(h:Aq w=Y)(ht:w.ti<99999)(hd:(doM w e).2=Y):
  Ab w e=⟨w.ti+1,(doM w e).1.A8,(doM w e).1.An,(doM w e).1.AQ,(doM w e).1.AN,(doM w e).1.got⟩:=by
 have t0:=(Cw h).2.1;have e1:Ab w e=CX w e:=by
  unfold Ab Ei;rw[A5 h,A9 (by rw[BG (J:¬99999<=w.ti)];exact CY),A5 hd]
 rw[e1,V5 hd,AZ J J]
def PF{w:AA}{e:Event}(h:Aq w=Y)(hd:(doM w e).2=A0):Ab w e=w:=by
 unfold Ab Ei;rw[A5 h,hd,A4];split<;>rfl
def rh{w:AA}{p:AL}{ps:List AL}(ok:B4 w)(hr:w.AQ=p::ps)(hl:∀i,i<3->bA w.An i=Y):doM w eBr=(EC w p ps,Y):=by
 have hp:pA w.AQ 0=p:=by rw[hr];rfl
 have hpo:=MF (ok.p p (by rw[hr];exact .head _));unfold doM;rw[A5<|.inl rfl];unfold EW;rw[A5<|show inB eBr.wo 0 ((w.AQ.length:Int) - 1)=Y from Aa.2 ⟨Cr _,by rw[hr];show(0:Int)<=((ps.length+1:Nat):Int) - 1;omega⟩,A9<|show ¬eBr.ki=6 by decide,A9<|show ¬eBr.ki=5 by decide];rw[show pA w.AQ eBr.wo.toNat=p from hp,hl _ J,A5 rfl,A5<|show eBr.kp=0 from rfl];rw[hr];rfl
def arN{w:AA}{f:Frame}{ps:List AL}(hf:C2 f=Y):EC w (pcF f) ps=⟨w.ti,w.A8.set f.dst.toNat (CF (kA w.A8 f.dst.toNat) f).1,w.An,C4 ps (CF (kA w.A8 f.dst.toNat) f).2,w.AN,w.got⟩:=by
 have hu:D0 (BD (pcF f).data)=(f,Y):=by
  show D0 (BD<|BI<|Ci f)=_;rw[Ok<|Oy f,YY hf]
 unfold EC;rw[hu,A5<|by simp[pcF]];rfl
def aJr{w:AA}{f:Frame}(h:Aq w=Y)(ht:w.ti<99999)(hl:∀i,i<3->bA w.An i=Y)(hr:w.AQ=[pcF f])(hf:C2 f=Y):
  Ab w eBr=⟨w.ti+1,w.A8.set f.dst.toNat (CF (kA w.A8 f.dst.toNat) f).1,w.An,C4 [] (CF (kA w.A8 f.dst.toNat) f).2,w.AN,w.got⟩:=by
 have hd:=rh (Cw h).1 hr hl;rw[PG h ht<|by rw[hd],hd,arN hf]
def avM(f:Frame):C4 [] [f]=[pcF f]:=rfl
def aGq:C4 [] []=[]:=rfl
def azV{w:AA}(c:Cm w)(hr:w.AQ=[])(ht:w.ti<99999){i:Nat}(hi:i<4){n:A3}(hn:n∈(sT w i).held){b:Int}(hb:inB b 0 999=Y):
  Ab w (eMx i n.fr n.nu b)=⟨w.ti+1,w.A8,w.An,[pcF (BB i n b)],w.AN,w.got⟩:=by
 have ok:=c.rv;have hk:=FL ok hi;have h0:=aC hn rfl rfl;obtain⟨j0,_,j2,j3⟩:=FK h0;have e:=Ix c.inv.sp (LJ c.inv ok hi<|EX j0) (LJ c.inv ok hi hn) j2 j3;have hid:=(ok.k i hi).2;have hm:EK (kA w.A8 i) n.fr n.nu b=(BB i n b,Y):=by
  unfold EK;rw[A5 (by rw[c.up i hi,hb,BG (show ¬AY (stT<|kA w.A8 i).held n.fr n.nu<0 by have:0<=AY (stT<|kA w.A8 i).held n.fr n.nu:=h0;omega)];rfl)];have e:nA (stT<|kA w.A8 i).held (AY (stT<|kA w.A8 i).held n.fr n.nu).toNat=n:=e;rw[e,hid];rfl
 have hd:doM w (eMx i n.fr n.nu b)=(⟨w.ti,w.A8,w.An,C4 w.AQ [BB i n b],w.AN,w.got⟩,Y):=by
  unfold doM;rw[A9 (by show ¬((3:Int)=4\/(3:Int)=5\/(3:Int)=6);omega),A9 (by show ¬((3:Int)=9\/(3:Int)=10);omega),A5<|show isN (eMx i n.fr n.nu b).at_=Y from Fe hi];unfold Gt;rw[A9 (by show ¬(3:Int)=1;omega),A9 (by show ¬(3:Int)=2;omega),A5<|show(eMx i n.fr n.nu b).ki=3 from rfl];have:EK (kA w.A8 (eMx i n.fr n.nu b).at_.toNat) (eMx i n.fr n.nu b).fr (eMx i n.fr n.nu b).nu (eMx i n.fr n.nu b).mix=(BB i n b,Y):=hm;rw[this];rfl
 rw[PG c.ok ht<|by rw[hd],hd,hr];rfl
def Tz{l:List A7}{i j:Nat}(k:A7)(h:j≠i):kA (l.set i k) j=kA l j:=by
 by_cases c:i<l.length
 .rw[FM c,A9 h]
 .rw[List.set_eq_of_length_le J]
def aG8{w:AA}(c:Cm w)(ht:w.ti+3<99999)(hr:w.AQ=[]){i j:Nat}(hi:i<4)(hj:j<4){n:A3}(hn:n∈(sT w i).held)(hnx:BR i n.to=(j:Int)){b:Int}(hb:inB b 0 999=Y):
  (∃w',dlv 400 (Ab w<|eMx i n.fr n.nu b)=w'/\(EB (kA w.A8 j)<|BB i n b).2=[]/\w'=⟨w.ti+2,w.A8.set j (EB (kA w.A8 j)<|BB i n b).1,w.An,[],w.AN,w.got⟩)\/
  (∃w' x,dlv 400 (Ab w<|eMx i n.fr n.nu b)=w'/\(x=2\/x=3)/\(EB (kA w.A8 j)<|BB i n b).2=[Dm x (BB i n b)]/\
   w'=⟨w.ti+3,(w.A8.set j (EB (kA w.A8 j)<|BB i n b).1).set i (CF (kA w.A8 i)<|Dm x<|BB i n b).1,w.An,[],w.AN,w.got⟩):=by
 have ok:=c.rv;have kl:=ok.kl;have hkn:=NV (FL ok hi) hn;have idi:=Gy ok hi;rw[idi]at hkn;have nok:=ok.s n<|LJ c.inv ok hi hn;have hf:C2 (BB i n b)=Y:=nk (Fe hi) nok hkn.1 hb;have Q8:(BB i n b).dst=(j:Int):=hnx;have hij:i≠j:=by
  have:=o7 (Fe hi) (NR nok).2.1 (by have:=hkn.1;unfold Ec at this;simp only[AD,Bz,decide_eq_false_iff_not]at this;exact this.1);intro e;rw[hnx,e]at this;omega
 have h1:=azV c hr J hi hn hb;have g0:=MA c.ok c.inv<|eMx i n.fr n.nu b;have hh:CF (kA w.A8 j) (BB i n b)=EB (kA w.A8 j) (BB i n b):=by
  rw[aE (ok.k j hj).1];unfold HS;rw[A5 (by rw[c.up j hj,hf,Q8,(ok.k j hj).2];simp),A5<|show U ((BB i n b).ki=1)=Y from rfl]
 rw[h1]at g0;have s2:=aJr (w:=⟨w.ti+1,w.A8,w.An,[pcF (BB i n b)],w.AN,w.got⟩) (f:=BB i n b) g0.1 (by show w.ti+1<99999;omega) c.li rfl hf;rw[Q8,BX]at s2;simp only[hh]at s2;have d1:dlv 400 (Ab w<|eMx i n.fr n.nu b)=dlv 399 (Ab ⟨w.ti+1,w.A8,w.An,[pcF (BB i n b)],w.AN,w.got⟩ eBr):=by
  rw[h1];exact UQ rfl 399
 have g1:=MA g0.1 g0.2 eBr;rw[s2]at d1 g1;have two:w.ti+1+1=w.ti+2:=J
 rw[two]at d1 g1;have ha:=ns (kA w.A8 j)<|BB i n b;rw[hh]at ha;obtain ha|⟨_,_,_,x,hx,ha⟩:=ha
 .rw[ha,aGq]at d1;exact .inl ⟨_,rfl,ha,by rw[d1,MT rfl]⟩
 .refine .inr ⟨_,x,rfl,hx,ha, ?_⟩;rw[ha,avM]at d1 g1;have hfa:=rT hf rfl hx;have s3:=aJr (w:=⟨w.ti+2,w.A8.set j (EB (kA w.A8 j)<|BB i n b).1,w.An,[pcF (Dm x<|BB i n b)],w.AN,w.got⟩) (f:=Dm x<|BB i n b) g1.1 (by show w.ti+2<99999;omega) c.li rfl hfa;have hds:(Dm x<|BB i n b).dst=(i:Int):=rfl;rw[hds,BX]at s3;simp only[Tz _ hij]at s3;have hno:(CF (kA w.A8 i)<|Dm x<|BB i n b).2=[]:=by
   obtain h|⟨_,h,_⟩:=ns (kA w.A8 i) (Dm x<|BB i n b)
   .exact h
   .have:(Dm x<|BB i n b).ki=x:=rfl;omega
  rw[hno,aGq]at s3;rw[d1,UQ rfl 398,s3,MT rfl];rw[show w.ti+2+1=w.ti+3 by omega]
def Pr(hv:List AG)(n:A3)(b:Nat):Prop:=b=0\/ ∃h∈hv,h.fr=n.fr/\h.nu=n.nu/\ ∃x,h.got=x++FI n.tx b
def arZ(tx:A1)(b:Nat):(FI tx b).length=b:=by unfold FI;simp
def arU(tx:A1)(b:Nat):FI tx (b+1)=FI tx b++[⟨(b:Int),GZ tx (b:Int)⟩]:=by
 unfold FI;rw[IU,Em];rfl
def arT(x:List AT)(tx:A1){b:Nat}(hb:b<=5):∃x',D2 (x++FI tx b) (b:Int) (GZ tx (b:Int))=x'++FI tx (b+1):=by
 have h:(FI tx b).filter (Dt (b:Int))=FI tx b:=List.filter_eq_self.2 λm hm=>by
  obtain⟨j,hj,rfl⟩:=arY hm;unfold Dt;simp;omega
 have hl:=arZ tx b;unfold D2;rw[Rl,h,arU];split
 .rename_i hc;rw[Ax]at hc;refine⟨(x.filter<|Dt (b:Int)).drop 1, ?_⟩;rw[Uj J,C7]
 .exact⟨x.filter<|Dt (b:Int),by rw[C7]⟩
def avf{k:A7}(hk:Ag k=Y){a b:AG}(ha:a∈k.AJ)(hb:b∈k.AJ)(h1:a.fr=b.fr)(h2:a.nu=b.nu):a=b:=by
 have hv:=(Dq hk).hv;obtain⟨i,hi,ei⟩:=PW ha;obtain⟨j,hj,ej⟩:=PW hb;have key:∀i j,i<k.AJ.length->j<i->¬((hA k.AJ j).fr=(hA k.AJ i).fr/\(hA k.AJ j).nu=(hA k.AJ i).nu):=λi j hi hj c=>by
  have:=hv i hi;unfold G0 at this;rw[AD,CC]at this;have:=this.2 j hj;rw[AW c.1,AW c.2]at this;cases this
 obtain c|c|c:=IX i j
 .exact absurd ⟨by rw[ei,ej,h1],by rw[ei,ej,h2]⟩ (key j i hj c)
 .subst c;rw[← ei,← ej]
 .exact absurd ⟨by rw[ei,ej,h1],by rw[ei,ej,h2]⟩<|key i j hi c
def arW{l:List AG}{f n:Int}(h:EN l f n<0):∀x∈l,¬(x.fr=f/\x.nu=n):=λx hx c=>by
 obtain⟨i,hi,e⟩:=PW hx;unfold EN at h;obtain⟨_,g⟩|⟨m,g,_⟩:=GP l.length (λi=>U ((hA l i).fr=f)&&U ((hA l i).nu=n))
 .have:=g i hi;rw[e,AW c.1,AW c.2]at this;cases this
 .omega
def auo{k:A7}(hk:Ag k=Y){f:Frame}{n:A3}(h1:f.fr=n.fr)(h2:f.nu=n.nu){b:Nat}(p:Pr k.AJ n b):∃x,(hA (At k.AJ f).1 (At k.AJ f).2).got=x++FI n.tx b:=by
 obtain⟨i,e,hi,e1,e2,_⟩|⟨hn,l,_,e⟩:=nc k.AJ f
 .rw[e];obtain rfl|⟨h,hh,a1,a2,x,a3⟩:=p
  .exact⟨(hA k.AJ i).got,by show _=_++FI n.tx 0;rw[show FI n.tx 0=[] from rfl,CU]⟩
  .have:=avf hk hh (rZ hi) (by rw[a1,e1,h1]) (by rw[a2,e2,h2]);exact⟨x,by rw[← this];exact a3⟩
 .rw[e];obtain rfl|⟨h,hh,a1,a2,_⟩:=p
  .exact⟨[],by rw[bk];rfl⟩
  .exact absurd ⟨by rw[a1,h1],by rw[a2,h2]⟩<|arW hn h hh
def aun{w:AA}(v:Inv w){j:Nat}(hj:j<4){f:Frame}{n:A3}(hn:n∈w.AN)(h1:f.fr=n.fr)(h2:f.nu=n.nu)(h3:f.to=n.to)(h4:f.un=n.un)(h5:f.sz=n.tx.size):
  Mg (hA (At (kA w.A8 j).AJ f).1 (At (kA w.A8 j).AJ f).2) f=Y:=by
 obtain⟨i,e,hi,e1,e2,_⟩|⟨_,l,_,e⟩:=nc (kA w.A8 j).AJ f
 .rw[e];obtain⟨x,x1,x2,x3,x4,x5,x6,_⟩:=v.hf j hj _<|rZ hi;have ex:x=n:=Ix v.sp x1 hn (by rw[← x2,e1,h1]) (by rw[← x3,e2,h2]);subst ex;unfold Mg;rw[x4,x5,x6,h3,h4,h5];simp
 .rw[e,bk];exact avN f
def auU{tx:A1}{b k:Nat}(h:k<b):(⟨(k:Int),GZ tx (k:Int)⟩:AT)∈FI tx b:=C1.2 ⟨k,D4.2 h,rfl⟩
def asn{tx:A1}(h:inB tx.size 1 24=Y){x:List AT}(ho:Pw tx (x++FI tx ((tx.size+3) / 4))):FO tx.size (x++FI tx ((tx.size+3) / 4))=(tx,Y):=by
 have h':=Aa.1 h;refine arD h ho λk hk=>⟨⟨(k:Int),GZ tx (k:Int)⟩,CR _<|auU hk,aH9 h<|Aa.2 J, ?_⟩;exact ar5 (aGR h) hk
def aGx{w:AA}(c:Cm w){i j:Nat}(hi:i<4)(hj:j<4){n:A3}(hn:n∈(sT w i).held)(hnx:BR i n.to=(j:Int)){b:Nat}(hb:b<(n.tx.size+3) / 4)(hp:Pr (kA w.A8 j).AJ n b):
  (n.un<=(sT w j).ti/\EB (kA w.A8 j) (BB i n b)=(kA w.A8 j,[Dm 3 (BB i n b)]))\/
  (¬n.un<=(sT w j).ti/\ ∃k',EB (kA w.A8 j) (BB i n b)=(k',[Dm 2 (BB i n b)])/\k'.up=Y/\(stT k').ti=(sT w j).ti/\ ∀x∈(stT k').held,x∈(sT w j).held\/x=n)\/
  (¬n.un<=(sT w j).ti/\b+1<(n.tx.size+3) / 4/\ ∃hv,EB (kA w.A8 j) (BB i n b)=(Gw (kA w.A8 j) hv,[])/\Pr hv n (b+1)):=by
 have ok:=c.rv;have v:=c.inv;have hkn:=NV (FL ok hi) hn;rw[Gy ok hi]at hkn;have hs:=LJ v ok hi hn;have nok:=ok.s n hs;have rn:=NR nok;have htx:=MQ nok;have als:=Aa.1 htx;have SS:inB (b:Int) 0 999=Y:=Aa.2 J;have hf:C2 (BB i n b)=Y:=nk (Fe hi) nok hkn.1 SS;have hwn:=P2 (Fe hi) rn.1 rn.2.1 hkn.1;rw[hnx]at hwn;have oJ:=(ok.k j hj).1;have amC:=(ok.k j hj).2;have upj:=c.up j hj;unfold EB;by_cases hl:n.un<=(sT w j).ti
 .rw[A5<|show(BB i n b).un<=(stT<|kA w.A8 j).ti from hl];exact .inl ⟨hl,rfl⟩
 rw[A9<|show ¬(BB i n b).un<=(stT<|kA w.A8 j).ti from hl];by_cases hh:0<=AY (stT<|kA w.A8 j).held (BB i n b).fr (BB i n b).nu\/0<=Br (stT<|kA w.A8 j).marks (BB i n b).fr (BB i n b).nu
 .rw[A5 hh];obtain⟨_,_,_,a3⟩:=UJ oJ;exact .inr<|.inl ⟨hl,_,rfl,upj,by rw[a3],λx hx=>by rw[a3]at hx;exact .inl hx⟩
 rw[A9 hh,A9 (show ¬(BB i n b).fr=(kA w.A8 j).id by rw[amC];exact λe=>hwn.2.1 e.symm)];have d1:∀x∈(sT w j).held,¬(x.fr=n.fr/\x.nu=n.nu):=λx hx e=>hh<|.inl<|aC hx e.1 e.2;have d3:∀x∈(sT w j).marks,¬(x.mf=n.fr/\x.mn=n.nu):=λx hx e=>hh<|.inr<|qD hx e.1 e.2;have d2:∀x∈(sT w j).inbox,¬(x.fr=n.fr/\x.nu=n.nu):=λx hx e=>by
  have hx2:=Ix v.sp (v.bx j hj x hx).1 hs e.1 e.2;subst hx2;obtain⟨y,y1,y2,y3⟩:=(Yo (FL ok hj) hx).2.2 J;exact d3 y y1 ⟨y2,y3⟩
 obtain⟨p1,p2,p3⟩:=aaW (w:=w) (v.hf j hj) (f:=BB i n b) hs rfl rfl rfl rfl rfl;have plt:=PB (hv:=(kA w.A8 j).AJ) (f:=BB i n b);obtain⟨q1,q2⟩:=aan v plt p1 hs (f:=BB i n b) rfl rfl rfl p2 p3;obtain⟨x,ex⟩:=auo oJ (f:=BB i n b) (n:=n) rfl rfl hp;obtain⟨x',ex'⟩:=arT x n.tx (b:=b) J;unfold Jc;rw[A5<|aun v hj (f:=BB i n b) hs rfl rfl rfl rfl rfl];rw[ex,show D2 (x++FI n.tx b) (BB i n b).mix (BB i n b).da=_ from ex'];rw[ex,show D2 (x++FI n.tx b) (BB i n b).mix (BB i n b).da=_ from ex']at q2;rw[show(BB i n b).sz=(n.tx.size:Int) from rfl];obtain ht|ht:=tf (FO n.tx.size<|x'++FI n.tx (b+1)).2
 .rw[A5 ht];have hte:=aHH htx q2 ht;rw[hte];rw[show(⟨(BB i n b).fr,(BB i n b).nu,(BB i n b).to,(BB i n b).un,(n.tx,Y).1⟩:A3)=n from rfl];have hdr:=cP oJ upj hf rfl;have hkk:=Bs hdr.ok;have est:stT (Gw (kA w.A8 j)<|FR (D8 (At (kA w.A8 j).AJ<|BB i n b).1 (At (kA w.A8 j).AJ<|BB i n b).2<|BB i n b) (At (kA w.A8 j).AJ<|BB i n b).2)=sT w j:=rfl;obtain⟨o,ho⟩:=asp (k:=sT w j) (FL ok hj) nok (by rw[Gy ok hj];exact λe=>hwn.2.1 e.symm) J d1 d2 d3 (avO v ok hj hs d1 d3) (avP v ok hj hs d2) (λhne=>by
   rw[Gy ok hj]at hne ⊢;exact hwn.2.2 λe=>hne e.symm)
  have sr:=q8 hkk (by rw[est];exact ho);unfold JV;rw[A5 (by rw[nok,sr.2];rfl)];obtain⟨kf,_⟩:=aJD (FL ok hj) nok ho;refine .inr (.inl ⟨hl,_,rfl,by rw[PN];exact upj, ?_,λy hy=> ?_⟩)
  .rw[sr.1.is.stT];have tk:=abM (FL ok hj) nok ho;exact tk.ti
  .rw[sr.1.is.stT]at hy;obtain e|e|e:=kf.held y hy
   .exact .inl e
   .cases e
   .cases e;exact .inr rfl
 .rw[ht,A4];refine .inr (.inr ⟨hl, ?_,_,rfl, ?_⟩)
  .rcases Gl (b+1) ((n.tx.size+3) / 4) with h|h
   .exact h
   .have e:b+1=(n.tx.size+3) / 4:=J
    rw[e]at ht q2;rw[asn htx q2]at ht;cases ht
  .have hm:∀(l:List AG) (m:Nat),m<l.length->(⟨(hA l m).fr,(hA l m).nu,(hA l m).to,(hA l m).un,(hA l m).sz,D2 (hA l m).got (BB i n b).mix (BB i n b).da⟩:AG)∈D8 l m (BB i n b):=λl m h=>by
    unfold D8;exact List.mem_set h _
   refine .inr ⟨_,hm _ _ plt,p2,p3,x', ?_⟩;show D2 (hA (At (kA w.A8 j).AJ<|BB i n b).1 (At (kA w.A8 j).AJ<|BB i n b).2).got (BB i n b).mix (BB i n b).da=_;rw[ex];exact ex'
def qS:∀(m:Nat) {w:AA},Aq w=Y->Inv w->Aq (dlv m w)=Y/\Inv (dlv m w)
 | 0,_,h,v=>⟨h,v⟩
 | m+1,w,h,v=>by
  unfold dlv;split
  .exact⟨h,v⟩
  .obtain⟨a,b⟩:=MA h v eBr;exact qS m a b
def aHB{k:A7}(hk:Ag k=Y)(f:Frame):CF k (Dm 3 f)=(k,[]):=by
 rw[aE hk];unfold HS;split
 .rw[A9 (show ¬U ((Dm 3 f).ki=1)=Y by show ¬U ((3:Int)=1)=Y;decide),show U ((Dm 3 f).ki=2)=A0 from rfl,AP,A4]
 .rfl
def aw3{w:AA}(c:Cm w){i:Nat}(hi:i<4){n:A3}(hn:n∈(sT w i).held){b:Int}(hb:inB b 0 999=Y):
  ∃k',CF (kA w.A8 i) (Dm 2<|BB i n b)=(k',[])/\k'.up=Y/\(stT k').ti=(sT w i).ti/\(∀x∈(stT k').held,x∈(sT w i).held/\x≠n):=by
 have ok:=c.rv;have hk:=FL ok hi;have aF5:=(ok.k i hi).1;have hkn:=NV hk hn;rw[Gy ok hi]at hkn;have hs:=LJ c.inv ok hi hn;have nok:=ok.s n hs;have hf:C2 (BB i n b)=Y:=nk (Fe hi) nok hkn.1 hb;have hfa:=rT hf rfl (n:=2) (.inl rfl);have h0:=aC hn rfl rfl;obtain⟨j0,_,j2,j3⟩:=FK h0;have e:=Ix c.inv.sp (LJ c.inv ok hi<|EX j0) hs j2 j3;have e:nA (stT<|kA w.A8 i).held (AY (stT<|kA w.A8 i).held n.fr n.nu).toNat=n:=e;have h0:0<=AY (stT<|kA w.A8 i).held n.fr n.nu:=h0;obtain⟨o,ho,hg⟩:=aw2 hk hn<|azP c.inv ok hi;have r:=TY nok;have hw2:(wrR (kA w.A8 i) (Ca C0 n.fr n.nu n.un) A0).2=Y:=by
  unfold wrR;rw[show BK (stT<|kA w.A8 i) _=_ from ho]
 obtain⟨_,_,a2,_⟩:=aaQ aF5 (c.inv.lo i hi) ⟨n.fr,n.nu,n.un,J,J,J,rfl⟩ hw2;have eo:o=stT (wrR (kA w.A8 i) (Ca C0 n.fr n.nu n.un) A0).1:=Ck<|ho.symm.trans a2;have kf:=aah hk J J J ho;obtain⟨_,eo2⟩:=bh hk J J J ho;refine⟨(wrR (kA w.A8 i) (Ca C0 n.fr n.nu n.un) A0).1, ?_,by rw[PN];exact c.up i hi,by rw[← eo,eo2],λx hx=> ?_⟩
 .rw[aE aF5];unfold HS;rw[A5 (by rw[c.up i hi,hfa,AU,AU];exact AW (by rw[(ok.k i hi).2];rfl)),A9 (show ¬U ((Dm 2<|BB i n b).ki=1)=Y by show ¬U ((2:Int)=1)=Y;decide)];rw[A5 (by
   rw[show(Dm 2<|BB i n b).fr=n.fr from rfl,show(Dm 2<|BB i n b).nu=n.nu from rfl,e,BG (J:¬AY (stT<|kA w.A8 i).held n.fr n.nu<0)];rw[show(Dm 2<|BB i n b).to=n.to from rfl,show(Dm 2<|BB i n b).un=n.un from rfl,show U ((Dm 2<|BB i n b).ki=2)=Y from rfl,AW rfl,AW rfl];rfl)]
  rfl
 .rw[← eo]at hx;obtain h|h|h:=kf.held x hx
  .exact⟨h,λe=>hg x hx ⟨by rw[e],by rw[e]⟩⟩
  .cases h
  .cases h
def azS{w:AA}(ok:B4 w){i j:Nat}(hi:i<4){n:A3}(nok:Ay n=Y)(hw:Ec (i:Int) n.fr n.to=Y)(hnx:BR i n.to=(j:Int)):i≠j:=by
 have:=o7 (Fe hi) (NR nok).2.1 (by unfold Ec at hw;simp only[AD,Bz,decide_eq_false_iff_not]at hw;exact hw.1);intro e;rw[hnx,e]at this;omega
def atA{w:AA}(c:Cm w)(hr:w.AQ=[])(ht:w.ti+3<99999){i j:Nat}(hi:i<4)(hj:j<4){n:A3}(hn:n∈(sT w i).held)(hnx:BR i n.to=(j:Int)){b:Nat}(hb:b<(n.tx.size+3) / 4)(hp:Pr (kA w.A8 j).AJ n b):
  Ofr 3 w (FQ i n w b) i j n/\(n.un<=(sT w j).ti\/n ∉ (sT (FQ i n w b) i).held\/(n∈(sT (FQ i n w b) i).held/\b+1<(n.tx.size+3) / 4/\Pr (kA (FQ i n w b).A8 j).AJ n (b+1))):=by
 have ok:=c.rv;have kl:=ok.kl;have hkn:=NV (FL ok hi) hn;rw[Gy ok hi]at hkn;have nok:=ok.s n<|LJ c.inv ok hi hn;have htx:=Aa.1<|MQ nok;have SS:inB (b:Int) 0 999=Y:=Aa.2 J;have hij:=azS ok hi nok hkn.1 hnx;have Dp:=(fun(e:Event)=>MA c.ok c.inv e)<|eMx i n.fr n.nu b;have Dp:=qS 400 Dp.1 Dp.2;unfold FQ;obtain⟨w',e0,ha,ew⟩|⟨w',x,e0,hx,ha,ew⟩:=aG8 c ht hr hi hj hn hnx SS
 .rw[e0]at Dp ⊢;obtain⟨_,e⟩|⟨_,k',e,_⟩|⟨hl,hb2,hv,e,hpr⟩:=aGx c hi hj hn hnx hb hp
  .rw[e]at ha;cases ha
  .rw[e]at ha;cases ha
  .rw[e]at ew;subst ew;have kj:kA (w.A8.set j<|Gw (kA w.A8 j) hv) j=Gw (kA w.A8 j) hv:=by rw[FM J,A5 rfl]
   have kk:∀k,k≠j->kA (w.A8.set j<|Gw (kA w.A8 j) hv) k=kA w.A8 k:=λk hk=>Tz _ hk;have sts:∀k,stT (kA (w.A8.set j<|Gw (kA w.A8 j) hv) k)=stT (kA w.A8 k):=λk=>by
    by_cases h:k=j
    .rw[h,kj];rfl
    .rw[kk k h]
   refine⟨⟨⟨Dp.1,Dp.2,c.li,λk hk=> ?_⟩,rfl,rfl,rfl,by show w.ti<=w.ti+2;omega,by show w.ti+2<=w.ti+(3:Nat);omega,λk _=>by unfold sT;rw[sts],λy hy=>by unfold sT at hy ⊢; rw[sts]at hy;exact hy,
    λy hy=> .inl (by unfold sT at hy ⊢; rw[sts]at hy;exact hy),λk _ h2=>kk k h2,λhs=>absurd hs hl⟩,.inr<|.inr ⟨?_,hb2, ?_⟩⟩
   .show(kA (w.A8.set j _) k).up=Y;by_cases h:k=j
    .rw[h,kj];exact c.up j hj
    .rw[kk k h];exact c.up k hk
   .unfold sT at hn ⊢;rw[sts];exact hn
   .show Pr (kA (w.A8.set j _) j).AJ n (b+1);rw[kj];exact hpr
 .rw[e0]at Dp ⊢;obtain⟨hl,e⟩|⟨hl,k',e,u1,u2,u3⟩|⟨_,_,hv,e,_⟩:=aGx c hi hj hn hnx hb hp
  .rw[e]at ha;have hx3:x=3:=by
    have:=congrArg Frame.ki (pY ha).1;exact this.symm
   subst hx3;rw[e,aHB (ok.k i hi).1,LU,LU]at ew;subst ew;exact⟨⟨⟨Dp.1,Dp.2,c.li,c.up⟩,rfl,rfl,rfl,by show w.ti<=w.ti+3;omega,Cr _,λ_ _=>rfl,λ_ h=>h,λ_ h=> .inl h,λ_ _ _=>rfl,λ_=>rfl⟩,.inl hl⟩
  .rw[e]at ha;have hx2:x=2:=by
    have:=congrArg Frame.ki (pY ha).1;exact this.symm
   subst hx2;obtain⟨k1,l0,l1,l2,l3⟩:=aw3 c hi hn SS;rw[e,l0]at ew;subst ew;have ki:kA ((w.A8.set j k').set i k1) i=k1:=by rw[FM aJL,A5 rfl]
   have kj:kA ((w.A8.set j k').set i k1) j=k':=by rw[Tz _ λh=>hij h.symm,FM J,A5 rfl]
   have kk:∀k,k≠i->k≠j->kA ((w.A8.set j k').set i k1) k=kA w.A8 k:=λk h1 h2=>by rw[Tz _ h1,Tz _ h2]
   refine⟨⟨⟨Dp.1,Dp.2,c.li,λk hk=> ?_⟩,rfl,rfl,rfl,by show w.ti<=w.ti+3;omega,Cr _,λk hk=> ?_,λy hy=> ?_,λy hy=> ?_,kk,λhs=>absurd hs hl⟩,.inr<|.inl λh=> ?_⟩
   .show(kA ((w.A8.set j k').set i k1) k).up=Y;by_cases h1:k=i
    .rw[h1,ki];exact l1
    .by_cases h2:k=j
     .rw[h2,kj];exact u1
     .rw[kk k h1 h2];exact c.up k hk
   .show(stT<|kA ((w.A8.set j k').set i k1) k).ti=_;by_cases h1:k=i
    .rw[h1,ki];exact l2
    .by_cases h2:k=j
     .rw[h2,kj];exact u2
     .rw[kk k h1 h2]
   .have hy:y∈(stT<|kA ((w.A8.set j k').set i k1) i).held:=hy;rw[ki]at hy;exact(l3 y hy).1
   .have hy:y∈(stT<|kA ((w.A8.set j k').set i k1) j).held:=hy;rw[kj]at hy;exact u3 y hy
   .have h:n∈(stT<|kA ((w.A8.set j k').set i k1) i).held:=h;rw[ki]at h;exact(l3 n h).2 rfl
  .rw[e]at ha;cases ha
def azU{w:AA}(c:Cm w){i:Nat}(hi:i<4){n:A3}(hs:n∈w.AN)(hn:n ∉ (sT w i).held)(b:Int):Ab w (eMx i n.fr n.nu b)=w:=by
 have ok:=c.rv;refine PF c.ok ?_;have:(EK (kA w.A8 i) n.fr n.nu b).2=A0:=by
  unfold EK;split
  .rename_i hc;simp only[AD,Bz,decide_eq_false_iff_not]at hc;obtain⟨j0,_,j2,j3⟩:=FK<|Rz.1 hc.2.1;have hm:=EX j0;have e:=Ix c.inv.sp (LJ c.inv ok hi hm) hs j2 j3;rw[e]at hm;exact absurd hm hn
  .rfl
 unfold doM;rw[A9 (by show ¬((3:Int)=4\/(3:Int)=5\/(3:Int)=6);omega),A9 (by show ¬((3:Int)=9\/(3:Int)=10);omega),A5<|show isN (eMx i n.fr n.nu b).at_=Y from Fe hi];unfold Gt;rw[A9 (by show ¬(3:Int)=1;omega),A9 (by show ¬(3:Int)=2;omega),A5<|show(eMx i n.fr n.nu b).ki=3 from rfl];rw[A9 (by rw[show(EK (kA w.A8 (eMx i n.fr n.nu b).at_.toNat) (eMx i n.fr n.nu b).fr (eMx i n.fr n.nu b).nu (eMx i n.fr n.nu b).mix).2=A0 from this];exact CY)]
def atB{w:AA}(c:Cm w)(hr:w.AQ=[])(ht:w.ti+18<99999){i j:Nat}(hi:i<4)(hj:j<4){n:A3}(hs:n∈w.AN)(hnx:BR i n.to=(j:Int)):
  Ofr 18 w (Ko i w n) i j n/\(n.un<=(sT w j).ti\/n ∉ (sT (Ko i w n) i).held):=by
 have ok:=c.rv;have nok:=ok.s n hs;have htx:=Aa.1<|MQ nok;have key:∀m,m<=(n.tx.size+3) / 4->Ofr (3 * m) w ((B9 m).foldl (FQ i n) w) i j n/\(n.un<=(sT w j).ti\/n ∉ (sT ((B9 m).foldl (FQ i n) w) i).held\/
   (n∈(sT ((B9 m).foldl (FQ i n) w) i).held/\m<(n.tx.size+3) / 4/\Pr (kA ((B9 m).foldl (FQ i n) w).A8 j).AJ n m)):=by
  intro m
  induction m with
  | zero=>
   intro _;refine⟨Ofr.rfl c hr i j n, ?_⟩;by_cases h:n∈(sT w i).held
   .exact .inr (.inr ⟨h,J,.inl rfl⟩)
   .exact .inr<|.inl h
  | succ m ih=>
   intro hm;obtain⟨o,g⟩:=ih J;rw[IU,Gf];generalize (B9 m).foldl (FQ i n) w=x at o g;show Ofr (3 * (m+1)) w (FQ i n x m) i j n/\(_\/n ∉ (sT (FQ i n x m) i).held\/(n∈(sT (FQ i n x m) i).held/\_/\Pr (kA (FQ i n x m).A8 j).AJ n (m+1)));have hxs:n∈x.AN:=by rw[o.se];exact hs
   by_cases hh:n∈(sT x i).held
   .have t1:=o.t1;by_cases hp:Pr (kA x.A8 j).AJ n m
    .obtain⟨o2,g2⟩:=atA o.cm o.ra J hi hj hh hnx (b:=m) J hp;refine⟨(o.trans hj o2).up J, ?_⟩;obtain g2|g2|g2:=g2
     .rw[o.clk j hj]at g2;exact .inl g2
     .exact .inr (.inl g2)
     .exact .inr<|.inr g2
    ·
     have hst:n.un<=(sT w j).ti:=by
      obtain g|g|g:=g
      .exact g
      .exact absurd hh g
      .exact absurd g.2.2 hp
     have o2:Ofr 3 x (FQ i n x m) i j n:=by
      have hkn:=NV (FL o.cm.rv hi) hh;rw[Gy o.cm.rv hi]at hkn;have hl:n.un<=(sT x j).ti:=by rw[o.clk j hj];exact hst
      have SS:inB (m:Int) 0 999=Y:=Aa.2 J;have okx:=o.cm.rv;have Dp:=MA o.cm.ok o.cm.inv<|eMx i n.fr n.nu m;have Dp:=qS 400 Dp.1 Dp.2;have hpm:EB (kA x.A8 j) (BB i n m)=(kA x.A8 j,[Dm 3 (BB i n m)]):=by
       unfold EB;rw[A5<|show(BB i n m).un<=(stT<|kA x.A8 j).ti from hl]
      unfold FQ;obtain⟨w',e0,ha,_⟩|⟨w',y,e0,hy,ha,ew⟩:=aG8 o.cm J o.ra hi hj hh hnx SS
      .rw[hpm]at ha;cases ha
      .rw[e0]at Dp ⊢;rw[hpm]at ha;have hy3:y=3:=(congrArg Frame.ki (pY ha).1).symm;subst hy3;rw[hpm,aHB (okx.k i hi).1,LU,LU]at ew;subst ew;exact⟨⟨Dp.1,Dp.2,o.cm.li,o.cm.up⟩,rfl,rfl,rfl,by show x.ti<=x.ti+3;omega,Cr _,λ_ _=>rfl,λ_ h=>h,λ_ h=> .inl h,λ_ _ _=>rfl,λ_=>rfl⟩
     exact⟨(o.trans hj o2).up J,.inl hst⟩
   .have e:FQ i n x m=x:=by
     unfold FQ;rw[azU o.cm hi hxs hh,MT o.ra]
    rw[e];exact⟨o.up J,.inr<|.inl hh⟩
 obtain⟨o,g⟩:=key _<|Aw _;refine⟨o.up J, ?_⟩;obtain g|g|g:=g
 .exact .inl g
 .exact .inr g
 .omega
def UA{w w':AA}(h:∀k,k<4->(sT w' k).ti=(sT w k).ti){n:A3}{i:Nat}(hn:isN (BR i n.to)=Y):stk w' n i↔stk w n i:=by
 have:=E9 hn;unfold stk;rw[h _ J]
def aG9{i:Nat}(hi:i<4):∀(L:List A3) {w:AA},Cm w->w.AQ=[]->w.ti+18 * (L.length:Int)<99999->(∀n∈L,n∈w.AN/\Ec (i:Int) n.fr n.to=Y)->Trn (18 * L.length) w (L.foldl (Ko i) w) i L
 | [],w,c,hr,_,_=>⟨Cal.rfl c hr,λ_ h=>h,λ_ _ _ _ h=> .inl h,λ_ h=>(by cases h),λ_=>rfl⟩
 | n::L,w,c,hr,ht,hL=>by
  obtain⟨hs,hw⟩:=hL n<|.head _;have rn:=NR<|c.rv.s n hs;obtain⟨x1,_,_⟩:=P2 (Fe hi) rn.1 rn.2.1 hw;have xr:=E9 x1;obtain⟨j,hj⟩:∃j:Nat,BR i n.to=(j:Int):=⟨(BR i n.to).toNat,J⟩;have hj4:j<4:=J
  have hjn:(BR (i:Int) n.to).toNat=j:=J
  rw[Bf]at ht;obtain⟨o,g⟩:=atB c hr J hi hj4 hs hj;have t1:=o.t1;have ih:=aG9 hi L o.cm o.ra J (λm hm=>by rw[o.se];exact hL m<|.tail _ hm);have nx:∀m∈L,isN (BR i m.to)=Y:=λm hm=>by
   obtain⟨a,b⟩:=hL m<|.tail _ hm;have rm:=NR<|c.rv.s m a;exact(P2 (Fe hi) rm.1 rm.2.1 b).1
  have co:Cal 18 w (Ko i w n):=⟨o.cm,o.ra,o.se,o.go,o.t0,o.t1,o.clk⟩;show Trn _ w (L.foldl (Ko i)<|Ko i w n) i (n::L);refine⟨(co.trans ih.ca).up (by rw[Bf];omega),λx hx=>o.hi x<|ih.hi x hx,λk hk hki x hx=> ?_,λm hm=> ?_,λhst=> ?_⟩
  .rcases ih.ot k hk hki x hx with h|⟨h1,h2⟩
   .by_cases hkj:k=j
    .subst hkj;obtain h|h:=o.hj x h
     .exact .inl h
     .rw[h];exact .inr ⟨.head _,hj⟩
    .left;unfold sT at h ⊢;rw[o.ot k hki hkj]at h;exact h
   .exact .inr ⟨.tail _ h1,h2⟩
  .cases hm with
   | head=>
    obtain g|g:=g
    .right;unfold stk;rw[hjn];exact g
    .exact .inl λh=>g<|ih.hi _ h
   | tail _ hm=>
    obtain h|h:=ih.dn m hm
    .exact .inl h
    .exact .inr ((UA o.clk<|nx m hm).1 h)
  .have h0:=hst n<|.head _;unfold stk at h0;rw[hjn]at h0;exact(ih.st λm hm=>(UA o.clk<|nx m hm).2<|hst m<|.tail _ hm).trans<|o.st h0
def ZN{w:AA}(c:Cm w){i:Nat}(hi:i<4):∀n∈(sT w i).held,n∈w.AN/\Ec (i:Int) n.fr n.to=Y:=λn hn=>by
 have:=(NV (FL c.rv hi) hn).1;rw[Gy c.rv hi]at this;exact⟨LJ c.inv c.rv hi hn,this⟩
def V3{w:AA}(c:Cm w)(hr:w.AQ=[])(ht:w.ti+108<99999){i:Nat}(hi:i<4):Trn 108 w (Ii w i) i (sT w i).held:=by
 have hl:=(Bv<|FL c.rv hi).hl;have t:=aG9 hi (sT w i).held c hr J<|ZN c hi;exact⟨t.ca.up J,t.hi,t.ot,t.dn,t.st⟩
def Stl(w:AA):Prop:=∀k,k<4->∀n∈(sT w k).held,stk w n k
def O6(m:Nat)(w:AA):Prop:=∀k:Nat,k<4->∀n∈(sT w k).held,stk w n k\/(n.to<(k:Int)/\k+m<=3)\/(m=0/\(k:Int)<n.to)
def TI(m i:Nat)(w:AA):Prop:=∀k:Nat,k<4->∀n∈(sT w k).held,stk w n k\/(n.to<(k:Int)/\(k<i->k+m+1<=3)/\k+m<=3)\/((k:Int)<n.to/\i<=k)
def aR{w:AA}(c:Cm w)(hr:w.AQ=[])(ht:w.ti+108<99999){i m:Nat}(hi:i<4)(h:TI m i w):TI m (i+1) (Ii w i):=by
 have t:=V3 c hr ht hi;intro k hk n hn;have okx:=t.ca.cm.rv;have nx:∀ {k:Nat} {x:A3},k<4->x∈(sT w k).held->isN (BR k x.to)=Y:=fun {k x} hk hx=>by
  obtain⟨a,b⟩:=ZN c hk x hx;have rm:=NR<|c.rv.s x a;exact(P2 (Fe hk) rm.1 rm.2.1 b).1
 by_cases hki:k=i
 .subst hki;have hn':=t.hi n hn;obtain g|g:=t.dn n hn'
  .exact absurd hn g
  .exact .inl ((UA t.ca.clk<|nx hk hn').2 g)
 .rcases t.ot k hk hki n hn with g|⟨g1,g2⟩
  .rcases h k hk n g with a|⟨a,b,d⟩|⟨a,b⟩
   .exact .inl ((UA t.ca.clk<|nx hk g).2 a)
   .exact .inr (.inl ⟨a,λe=>b J,d⟩)
   .exact .inr (.inr ⟨a,J⟩)
  .have hw:=NV (FL okx hk) hn;rw[Gy okx hk,t.ca.clk k hk]at hw;have hne:(k:Int)≠n.to:=λe=>by
    have:=hw.1;unfold Ec at this;rw[e]at this;simp at this
   have e1:BR (i:Int) n.to=if(i:Int)<n.to then(i:Int)+1 else(i:Int) - 1:=by
    have:=nx hi g1;unfold BR at this ⊢;split at this
    .exact absurd (E9 this) J
    .rename_i hc;rw[A9 hc]
   rw[e1]at g2;obtain a|⟨a,b,d⟩|⟨a,b⟩:=h i hi n g1
   .exfalso;unfold stk at a;rw[e1,g2,BX]at a;omega
   .rw[A9 J]at g2;exact .inr (.inl ⟨J,λ_=>by omega,J⟩)
   .rw[A5 a]at g2;exact .inr<|.inr ⟨J,J⟩
def aIy{w:AA}(c:Cm w)(hr:w.AQ=[])(ht:w.ti+432<99999){m:Nat}(h:O6 m w):Cal 432 w (S7 w)/\O6 (m+1) (S7 w)/\(Stl w->(S7 w).A8=w.A8):=by
 have s0:TI m 0 w:=λk hk n hn=>by
  obtain a|⟨a,b⟩|⟨_,a⟩:=h k hk n hn
  .exact .inl a
  .exact .inr (.inl ⟨a,λe=>by omega,b⟩)
  .exact .inr<|.inr ⟨a,J⟩
 have t0:=V3 c hr J (i:=0) J;have s1:=aR c hr J J s0;have b0:=t0.ca.t1;have t1:=V3 t0.ca.cm t0.ca.ra J (i:=1) J;have s2:=aR t0.ca.cm t0.ca.ra J J s1;have b1:=t1.ca.t1;have t2:=V3 t1.ca.cm t1.ca.ra J (i:=2) J;have s3:=aR t1.ca.cm t1.ca.ra J J s2;have b2:=t2.ca.t1;have t3:=V3 t2.ca.cm t2.ca.ra J (i:=3) J;have s4:=aR t2.ca.cm t2.ca.ra J J s3;refine⟨(((t0.ca.trans t1.ca).trans t2.ca).trans t3.ca).up J,λk hk n hn=> ?_,λhst=> ?_⟩
 .rcases s4 k hk n hn with a|⟨a,b,_⟩|⟨_,a⟩
  .exact .inl a
  .exact .inr (.inl ⟨a,by have:=b hk;omega⟩)
  .omega
 .have e0:=t0.st (λn hn=>hst 0 J n hn);have up:∀ {x:AA},x.A8=w.A8->Stl x:=fun {x} e k hk n hn=>by
   unfold sT at hn;rw[e]at hn;have:=hst k hk n hn;unfold stk sT at this ⊢;rw[e];exact this
  have e1:=(t1.st λn hn=>up e0 1 J n hn).trans e0;have e2:=(t2.st λn hn=>up e1 2 J n hn).trans e1;exact(t3.st λn hn=>up e2 3 J n hn).trans e2
def axN{w:AA}(c:Cm w)(h:O6 3 w):Stl w:=λk hk n hn=>by
 obtain a|⟨a,b⟩|⟨a,_⟩:=h k hk n hn
 .exact a
 .have:=(Qv<|c.rv.s n<|LJ c.inv c.rv hk hn).2;omega
 .omega
def axO{w:AA}(c:Cm w):O6 0 w:=λk hk n hn=>by
 have hw:=NV (FL c.rv hk) hn;rw[Gy c.rv hk]at hw;have hne:(k:Int)≠n.to:=λe=>by
  have:=hw.1;unfold Ec at this;rw[e]at this;simp at this
 by_cases e:n.to<(k:Int)
 .exact .inr (.inl ⟨e,J⟩)
 .exact .inr<|.inr ⟨rfl,J⟩
def Oq{w:AA}(c:Cm w)(i:Nat)(hi:i<4):Ab w (eRi i)=w/\Ab w (eOp i)=w:=by
 have ok:=c.rv;have ll:=ok.ll;refine⟨PF c.ok ?_,PF c.ok ?_⟩
 .unfold doM;rw[A9 (by show ¬((8:Int)=4\/(8:Int)=5\/(8:Int)=6);omega),A9 (by show ¬((8:Int)=9\/(8:Int)=10);omega),A5<|show isN (eRi i).at_=Y from Fe hi];unfold Gt;rw[A9 (by show ¬(8:Int)=1;omega),A9 (by show ¬(8:Int)=2;omega),A9 (by show ¬(8:Int)=3;omega),A9 (by show ¬(8:Int)=7;omega),A5<|show(eRi i).ki=8 from rfl];show(!(kA w.A8 i).up)=A0;rw[c.up i hi];rfl
 .unfold doM;rw[A9 (by show ¬((9:Int)=4\/(9:Int)=5\/(9:Int)=6);omega),A5 (by show((9:Int)=9\/(9:Int)=10);omega)];unfold F5;split
  .rename_i hc;rw[AD,Aa]at hc;have h0:(0:Int)<=(i:Int)/\(i:Int)<=(w.An.length:Int) - 1:=hc.1;have hb:bA w.An (eOp i).at_.toNat=Y:=c.li i J;have:=hc.2;rw[hb,show U ((eOp (i:Int)).ki=9)=Y from rfl]at this;cases this
  .rfl
def atl{w:AA}(h:Aq w=Y)(v:Inv w)(ht:w.ti<99999){i:Nat}(hi:i<4):Pre 1 w (Ab w<|eRi i)/\(kA (Ab w<|eRi i).A8 i).up=Y:=by
 have ok:=(Cw h).1;have kl:=ok.kl;have Dp:=MA h v<|eRi i;have hd:doM w (eRi i)=(GK w i<|riM<|kA w.A8 i,!(kA w.A8 i).up):=by
  unfold doM;rw[A9 (by show ¬((8:Int)=4\/(8:Int)=5\/(8:Int)=6);omega),A9 (by show ¬((8:Int)=9\/(8:Int)=10);omega),A5<|show isN (eRi i).at_=Y from Fe hi];unfold Gt;rw[A9 (by show ¬(8:Int)=1;omega),A9 (by show ¬(8:Int)=2;omega),A9 (by show ¬(8:Int)=3;omega),A9 (by show ¬(8:Int)=7;omega),A5<|show(eRi i).ki=8 from rfl];rfl
 obtain e|e:=tf (kA w.A8 i).up
 .have:Ab w (eRi i)=w:=PF h (by rw[hd,e];rfl);rw[this]at Dp ⊢;exact⟨⟨h,v,rfl,rfl,Cr _,J,λ_=>rfl,λ_ x=>x,λ_ _ x=>x⟩,e⟩
 .have es:=PG h ht (e:=eRi i) (by rw[hd,e];rfl);rw[hd]at es;have ks:∀k,kA (Ab w<|eRi i).A8 k=if k=i then riM (kA w.A8 i) else kA w.A8 k:=λk=>by
   rw[es];show kA (w.A8.set i _) k=_;rw[FM J]
  refine⟨⟨Dp.1,Dp.2,by rw[es];rfl,by rw[es];rfl,by rw[es];show w.ti<=w.ti+1;omega,by rw[es];exact Cr _,λk=> ?_,λk x=> ?_,λj _ x=>by rw[es];exact x⟩,by rw[ks,A5 rfl];rfl⟩
  .unfold sT;rw[ks];split
   .rename_i c;rw[c];rfl
   .rfl
  .rw[ks];split
   .rfl
   .exact x
def at6{w:AA}(h:Aq w=Y)(v:Inv w)(ht:w.ti<99999){i:Nat}(hi:i<4):Pre 1 w (Ab w<|eOp i)/\(i<3->bA (Ab w<|eOp i).An i=Y):=by
 have ok:=(Cw h).1;have ll:=ok.ll;have Dp:=MA h v<|eOp i;have hd:doM w (eOp i)=F5 w (eOp i):=by
  unfold doM;rw[A9 (by show ¬((9:Int)=4\/(9:Int)=5\/(9:Int)=6);omega),A5 (by show((9:Int)=9\/(9:Int)=10);omega)]
 have e9:U ((eOp (i:Int)).ki=9)=Y:=rfl;obtain e|e:=tf (doM w<|eOp i).2
 .have es:=PG h ht e;rw[hd]at es e;have el:F5 w (eOp i)=(⟨w.ti,w.A8,w.An.set i Y,w.AQ,w.AN,w.got⟩,Y):=by
   unfold F5 at e ⊢;split at e
   .rename_i hc;rw[A5 hc,e9];rfl
   .cases e
  rw[el]at es;have hin:i<3:=by
   unfold F5 at e;split at e
   .rename_i hc;rw[AD,Aa]at hc;have:(i:Int)<=(w.An.length:Int) - 1:=hc.1.2;omega
   .cases e
  have bl:∀j,bA (Ab w<|eOp i).An j=if j=i then Y else bA w.An j:=λj=>by
   rw[es];show bA (w.An.set i Y) j=_;unfold bA;rw[BA,Pa,BA];by_cases c:i=j
   .rw[A5 c,A5 J,A5 c.symm];rfl
   .rw[A9 c,A9 λx=>c x.symm]
  refine⟨⟨Dp.1,Dp.2,by rw[es],by rw[es],by rw[es];show w.ti<=w.ti+1;omega,by rw[es];exact Cr _,λk=>by rw[es],λk x=>by rw[es];exact x,λj _ x=> ?_⟩,λ_=>by rw[bl,A5 rfl]⟩;rw[bl];split
  .rfl
  .exact x
 .have:Ab w (eOp i)=w:=PF h e;rw[this]at Dp ⊢;refine⟨⟨h,v,rfl,rfl,Cr _,J,λ_=>rfl,λ_ x=>x,λ_ _ x=>x⟩,λhi3=> ?_⟩;rw[hd]at e;unfold F5 at e;split at e
  .cases e
  .rename_i hn;obtain c|c:=tf (bA w.An i)
   .exact c
   .exfalso;refine hn ?_;rw[AD,Aa];refine⟨⟨by show(0:Int)<=(i:Int);omega,by show(i:Int)<=(w.An.length:Int) - 1;omega⟩, ?_⟩;rw[e9,show bA w.An (eOp i).at_.toNat=A0 from c];rfl
def ZV{w:AA}(h:Aq w=Y)(v:Inv w)(ht:w.ti+2<99999){i:Nat}(hi:i<4):Pre 2 w (Ab (Ab w<|eRi i)<|eOp i)/\(kA (Ab (Ab w<|eRi i)<|eOp i).A8 i).up=Y/\(i<3->bA (Ab (Ab w<|eRi i)<|eOp i).An i=Y):=by
 obtain⟨a,b⟩:=atl h v J hi;have t:=a.t1;obtain⟨c,d⟩:=at6 a.ok a.inv J hi;exact⟨a.trans c,c.up _ b,d⟩
def azR{w:AA}(h:Aq w=Y)(v:Inv w)(ht:w.ti+8<99999):Pre 8 w (opn w)/\(∀k,k<4->(kA (opn w).A8 k).up=Y)/\ ∀i,i<3->bA (opn w).An i=Y:=by
 obtain⟨a0,a1,a2⟩:=ZV h v J (i:=0) J;have ta:=a0.t1;obtain⟨b0,b1,b2⟩:=ZV a0.ok a0.inv J (i:=1) J;have tb:=b0.t1;obtain⟨c0,c1,c2⟩:=ZV b0.ok b0.inv J (i:=2) J;have tc:=c0.t1;obtain⟨d0,d1,_⟩:=ZV c0.ok c0.inv J (i:=3) J;refine⟨((a0.trans b0).trans c0).trans d0,λk hk=> ?_,λi hi=> ?_⟩
 .match k,hk with
  | 0,_=>exact d0.up 0<|c0.up 0<|b0.up 0 a1
  | 1,_=>exact d0.up 1<|c0.up 1 b1
  | 2,_=>exact d0.up 2 c1
  | 3,_=>exact d1
 .match i,hi with
  | 0,_=>exact d0.li 0 J<|c0.li 0 J<|b0.li 0 J<|a2 J
  | 1,_=>exact d0.li 1 J<|c0.li 1 J<|b2 J
  | 2,_=>exact d0.li 2 J<|c2 J
def pt(p:AL):Nat:=if(D0<|BD p.data).1.ki=1 then 2 else 1
def pot(l:List AL):Nat:=(l.map pt).sum
def aaX(p:AL):1<=pt p:=by unfold pt;split<;>omega
def qH(p:AL)(l:List AL):pot (p::l)=pt p+pot l:=by unfold pot;simp
def axR(a b:List AL):pot (a++b)=pot a+pot b:=by unfold pot;simp
def rL:∀l:List AL,pot l<=2 * l.length
 | []=>Aw _
 | p::l=>by
  have:=rL l;have:pt p<=2:=by unfold pt;split<;>omega
  rw[qH,Bf];omega
def aup{ps:List AL}{a:Frame}(hf:C2 a=Y)(h1:a.ki≠1):pot (C4 ps [a])<=pot ps+1:=by
 have:pt (pcF a)=1:=by
  unfold pt;rw[show BD (pcF a).data=Ci a from Ok<|Oy a,YY hf,A9 h1]
 unfold C4;rw[axR];obtain c|c:=Ui (30 - ps.length)
 .rw[c];simp[pot]
 .obtain⟨n,hn⟩:∃n,30 - ps.length=n+1:=⟨30 - ps.length - 1,J⟩;rw[hn];simp[pot,this]
def aGQ{w:AA}(ok:B4 w){p:AL}{ps:List AL}(hp:Dw p=Y):pot (EC w p ps).AQ<pt p+pot ps/\(EC w p ps).An=w.An/\(EC w p ps).AN=w.AN/\(EC w p ps).got=w.got/\(∀k,(kA (EC w p ps).A8 k).up=(kA w.A8 k).up)/\ ∀k,k<4->tiK (kA (EC w p ps).A8 k)=tiK (kA w.A8 k):=by
 have Rf:=aaX p;have hr:=MF hp;have kl:=ok.kl;unfold EC;split
 .rename_i hc;have hd:p.dst.toNat<4:=J
  refine⟨?_,rfl,rfl,rfl,λk=> ?_,λk hk=> ?_⟩
  .show pot (C4 ps _)<_;obtain h|⟨hf,h1,_,x,hx,h⟩:=ns (kA w.A8 p.dst.toNat) (D0<|BD p.data).1
   .rw[h];have:C4 ps []=ps:=by unfold C4;simp
    rw[this];omega
   .rw[h];have h2:pt p=2:=by unfold pt;rw[A5 h1]
    have:=aup (ps:=ps) (rT hf h1 hx) (by show x≠1;omega);omega
  .show(kA (w.A8.set p.dst.toNat _) k).up=_;rw[FM J];split
   .rename_i e;rw[e];exact aa5 (ok.k _ hd).1 _
   .rfl
  .show tiK (kA (w.A8.set p.dst.toNat _) k)=_;rw[FM J];split
   .rename_i e;rw[e];exact axE (ok.k _ hd).1 _
   .rfl
 .exact⟨by show pot ps<_;omega,rfl,rfl,rfl,λ_=>rfl,λ_ _=>rfl⟩
def rp:∀(m:Nat) {w:AA},Aq w=Y->Inv w->(∀i,i<3->bA w.An i=Y)->w.ti+(m:Int)<99999->Dlv m w (dlv m w)/\(pot w.AQ<=m->(dlv m w).AQ=[])
 | 0,w,h,v,_,_=>⟨⟨h,v,rfl,rfl,Cr _,by show w.ti<=w.ti+((0:Nat):Int);omega,λ_ _=>rfl,λ_=>rfl,rfl⟩,λhp=>by
  show w.AQ=[];cases hr:w.AQ with
  | nil=>rfl
  | cons p ps=>
   rw[hr,qH]at hp;have:=aaX p;omega⟩
 | m+1,w,h,v,hl,ht=>by
  have ok:=(Cw h).1;cases hr:w.AQ with
  | nil=>
   rw[MT hr];exact⟨⟨h,v,rfl,rfl,Cr _,J,λ_ _=>rfl,λ_=>rfl,rfl⟩,λ_=>hr⟩
  | cons p ps=>
   rw[UQ hr];have hd:=rh ok hr hl;have es:=PG h J (e:=eBr) (by rw[hd]);rw[hd]at es;obtain⟨g1,g2⟩:=MA h v eBr;obtain⟨b1,b2,b3,b4,b5,b6⟩:=aGQ ok (p:=p) (ps:=ps) (ok.p p (by rw[hr];exact .head _));have et:(Ab w eBr).ti=w.ti+1:=by rw[es]
   obtain⟨r1,r2⟩:=rp m g1 g2 (λi hi=>by rw[es];show bA (EC w p ps).An i=Y;rw[b2];exact hl i hi) J;refine⟨⟨r1.ok,r1.inv,r1.se.trans (by rw[es];exact b3),r1.go.trans (by rw[es];exact b4),by have:=r1.t0;omega,by have:=r1.t1;omega,λk hk=>(r1.clk k hk).trans ?_,λk=>(r1.up k).trans ?_,r1.li.trans (by rw[es];exact b2)⟩,λhp=>r2 ?_⟩
   .rw[es];exact b6 k hk
   .rw[es];exact b5 k
   .rw[es];rw[qH]at hp;show pot (EC w p ps).AQ<=m;omega
def atj{w:AA}(h:Aq w=Y)(v:Inv w)(ht:w.ti+840<99999):Cal 840 w (Fy w)/\O6 1 (Fy w):=by
 obtain⟨a,b,c⟩:=azR h v J;have t1:=a.t1;obtain⟨d,e⟩:=rp 400 a.ok a.inv c J;have hr:(dlv 400<|opn w).AQ=[]:=e (by
  have:=rL (opn w).AQ;have:=(Cw a.ok).1.rl;omega)
 have cm:Cm (dlv 400<|opn w):=⟨d.ok,d.inv,λi hi=>by rw[d.li];exact c i hi,λk hk=>by rw[d.up];exact b k hk⟩;have t2:=d.t1;obtain⟨f,g,_⟩:=aIy cm hr J<|axO cm;refine⟨⟨f.cm,f.ra,f.se.trans<|d.se.trans a.se,f.go.trans<|d.go.trans a.go,J7 a.t0<|J7 d.t0 f.t0,by have:=f.t1;show(S7<|dlv 400<|opn w).ti<=w.ti+((840:Nat):Int);omega,λk hk=>(f.clk k hk).trans<|(d.clk k hk).trans<|by rw[a.st]⟩,g⟩
def auy{w:AA}(c:Cm w):opn w=w:=by
 unfold opn;simp only[E4,KR];rw[(Oq c 0 J).1,(Oq c 0 J).2,(Oq c 1 J).1,(Oq c 1 J).2,(Oq c 2 J).1,(Oq c 2 J).2,(Oq c 3 J).1,(Oq c 3 J).2]
def pj{w:AA}(c:Cm w)(hr:w.AQ=[])(ht:w.ti+840<99999){m:Nat}(h:O6 m w):Cal 840 w (Fy w)/\O6 (m+1) (Fy w)/\(Stl w->(Fy w).A8=w.A8):=by
 unfold Fy;rw[auy c,MT hr];obtain⟨f,g,k⟩:=aIy c hr J h;exact⟨f.up J,g,k⟩
def aul{w:AA}(c:Cm w){m:Nat}(hm:3<=m)(h:O6 m w):Stl w:=axN c λk hk n hn=>by
 obtain a|⟨a,b⟩|⟨a,_⟩:=h k hk n hn
 .exact .inl a
 .exact .inr (.inl ⟨a,J⟩)
 .omega
def ab0{w:AA}(h:Aq w=Y)(v:Inv w)(ht:w.ti+3360<79999):Cal 3360 w (F6 4 w)/\Stl (F6 4 w):=by
 obtain⟨a0,a1⟩:=atj h v J;have ta:=a0.t1;obtain⟨b0,b1,_⟩:=pj a0.cm a0.ra J a1;have tb:=b0.t1;obtain⟨c0,c1,_⟩:=pj b0.cm b0.ra J b1;have tc:=c0.t1;obtain⟨d0,d1,_⟩:=pj c0.cm c0.ra J c1;have e:F6 4 w=Fy (Fy<|Fy<|Fy w):=by
  rw[Tl J,Tl J,Tl J,Tl J];rfl
 rw[e];exact⟨((a0.trans b0).trans c0).trans d0,aul d0.cm J d1⟩
def Zw(ev:List Event):0<=(C5 ev).ti/\(C5 ev).ti<=2000:=by
 refine⟨(Cw<|LQ ev).2.1, ?_⟩;unfold C5;split
 .decide
 .have:=(nf ev aW).2.2;have t0:rv0.ti=0:=rfl;omega
def arw{w:AA}(c:Cm w)(hs:Stl w){n:A3}(hn:n∈w.AN):Eu w n\/F8 w n:=by
 obtain h|h|⟨j,j1,j2,_⟩:=c.inv.cu n hn
 .exact .inl h
 .exact .inr h
 .have h:=hs j j1 n j2;obtain⟨a,b⟩:=ZN c j1 n j2;have rn:=NR<|c.rv.s n a;have x1:=(P2 (Fe j1) rn.1 rn.2.1 b).1;have xr:=E9 x1;have e1:BR (j:Int) n.to=if(j:Int)<n.to then(j:Int)+1 else(j:Int) - 1:=by
   unfold BR at x1 ⊢;split at x1
   .exact absurd (E9 x1) J
   .rename_i hc;rw[A9 hc]
  refine .inr ⟨(BR (j:Int) n.to).toNat,J, ?_,h⟩;unfold Ec at b;simp only[AD,Bz,decide_eq_false_iff_not,Bp,Aa]at b;unfold onW;rw[Nq xr.1,e1];split<;>omega
def ZU(ev:List Event):Cal 3360 (C5 ev) (F6 4<|C5 ev)/\Stl (F6 4<|C5 ev):=by
 have:=Zw ev;exact ab0 (LQ ev) (Ts ev).2 J
def UM{w:AA}(h:Aq w=Y):L8 (tR w,4,())=I ((tR<|F6 4 w,()),()):=aAI h (r:=4) J
def auf{a t:Int}(ha:0<=a/\a<=3)(ht:0<=t/\t<=3):BR a t=if a=t then -1 else if a<t then a+1 else a - 1:=by
 unfold BR;rw[show isN a=Y from Aa.2 ha,show isN t=Y from Aa.2 ht];by_cases e:a=t
 .rw[A5 e];simp[e]
 .rw[A9 e,A9<|by simp[e]]
def atP{w:AA}(ok:B4 w){n:A3}(nok:Ay n=Y):Tot (iX (tR w,(n.fr,n.nu,n.to,n.un,n.tx,()),())) λr=>r.1.1=Y->¬F8 w n:=by
 have kl:=ok.kl;obtain⟨e1,e2⟩:=Qv nok;unfold iX;refine Tot.sum (P:=λy=>y.1=A0) (Q:=λ_=>∀i:Nat,i<4->onW n i->(sT w i).ti<n.un) ?_ (λy hy=>Tot.ret (λh=>by rw[show y.1=Y from h]at hy;cases hy)) (λy hy=>Tot.ret λ_ ⟨i,i1,i2,i3⟩=>by have:=hy i i1 i2;omega);refine Tot.loop (λk s=>∃a:Int,s=(tR w,(n.fr,n.nu,n.to,n.un,n.tx,()),a,(k:Int),())/\((a= -1/\ ∀i:Nat,i<4->onW n i->(sT w i).ti<n.un)\/(0<=a/\a<=3/\onW n a/\(a - n.fr).natAbs=k/\ ∀i:Nat,i<4->onW n i->((i:Int) - n.fr).natAbs<k->(sT w i).ti<n.un))) _ 4 (λk s hk hs=> ?_)
  ⟨n.fr,rfl,.inr ⟨e1.1,e1.2,by unfold onW;omega,J,λi _ _ h=>by omega⟩⟩
 obtain⟨a,rfl,hs⟩:=hs;unfold kH;refine Tot.ite (λhc=> ?_) (λhc=>Tot.ret ?_)
 .rw[AD,decide_eq_true_eq,decide_eq_true_eq]at hc;obtain⟨c1,c2⟩:=hc;have c1:(k:Int)<4:=c1;have c2:0<=a:=c2;obtain⟨h,_⟩|⟨a0,a1,a2,a3,a4⟩:=hs
  .omega
  obtain⟨x,rfl⟩:∃x:Nat,a=(x:Int):=⟨a.toNat,J⟩;have hx:x<4:=J
  refine Tot.pos (AR (J:x<w.A8.length)) ?_;simp only[Yj];refine Tot.bind (Tot.eq<|Hj (ok.k x hx).1) λr15 h15=> ?_;subst h15;refine Tot.ite (λ_=>Tot.ret rfl) (λhn=> ?_);have hn:¬n.un<=(stT<|kA w.A8 x).ti:=J3 hn;refine Tot.bind (Tot.eq<|Wq (a:=(x:Int)) (t:=n.to)) λr16 h16=>Tot.ret ⟨J,BR x n.to, ?_, ?_⟩
  .subst h16;rw[show w64 ((k:Int)+1)=_ from LY rfl J]
  .rw[auf ⟨a0,a1⟩ e2];unfold onW at a2 ⊢;have here:(sT w x).ti<n.un:=by unfold sT;omega
   by_cases e:(x:Int)=n.to
   .rw[A5 e];refine .inl ⟨rfl,λi hi ho=> ?_⟩;unfold onW at ho;by_cases c:((i:Int) - n.fr).natAbs<k
    .exact a4 i hi ho c
    .have:i=x:=J
     rw[this];exact here
   .rw[A9 e];refine .inr ⟨by split<;>omega,by split<;>omega,by split<;>omega,by split<;>omega,λi hi ho h=> ?_⟩;by_cases c:((i:Int) - n.fr).natAbs<k
    .exact a4 i hi ho c
    .have ho':=ho;unfold onW at ho';have:i=x:=J
     rw[this];exact here
 .rcases hs with⟨_,h⟩|⟨a0,a1,a2,a3,a4⟩
  .exact h
  .have hc:(U ((k:Int)<4)&&U (0<=a))=A0:=hc;rw[KZ,decide_eq_false_iff_not,decide_eq_false_iff_not]at hc;exact λi hi ho=>a4 i hi ho (by unfold onW at ho;omega)
def azI{l:List Int}(hb:BOk l):W7 (l,())=I ((Y,()),()):=by
 obtain⟨ev,hd,hl,ht⟩:=TV hb;obtain⟨ca,st⟩:=ZU ev;unfold W7;apply Tot.val;refine Tot.ite (λ_=>Tot.ret rfl) (λ_=>Tot.bind (Tot.eq hd) λr1 h1=> ?_);subst h1;refine Tot.bind (Tot.eq<|Sn J ht) λr2 h2=>Tot.bind (Tot.eq<|QH J ht) λr3 h3=> ?_;subst h2 h3;refine Tot.bind (Tot.eq<|TO<|R3 ev) λr5 h5=> ?_;subst h5;refine Tot.neg rfl (Tot.bind (Tot.eq<|UM<|LQ ev) λr6 h6=> ?_);subst h6;have se:=ca.se;have c:=ca.cm;generalize F6 4 (C5 ev)=x at *;have ok:=c.rv;have kl:=ok.kl;have sl:=ok.sl;have gl:=ok.gl;refine Tot.sum (P:=λ_=>False) (Q:=λy=>y=(tR<|C5 ev,tR x,())) ?_ (λ_ h=>h.elim) (λy hy=> ?_)
 .refine Tot.loop (λi s=>s=(tR<|C5 ev,tR x,(i:Int),())) _ x.AN.length (λi s hi hs=> ?_) rfl;subst hs;unfold uM;refine Tot.ite (λhc=> ?_) (λhc=>Tot.ret rfl);have hc:(i:Int)<(x.AN.length:Int):=BV hc;have hi':i<x.AN.length:=J
  have hm:=EX hi';have nok:=ok.s _ hm;obtain⟨_,e2⟩:=Qv nok;have ew:w64 ((i:Int)+1)=((i+1:Nat):Int):=LY rfl J;refine Tot.pos (AR hi') ?_;simp only[Cf];have go:Tot (I (Sum.inl (tR<|C5 ev,tR x,w64<|(i:Int)+1,())):Rnd (YR×YR×Int×D) (Bool×D) (YR×YR×D)) (Rn (λs'=>i<x.AN.length/\s'=(tR<|C5 ev,tR x,((i+1:Nat):Int),()))<|Rn (λ_=>False) λy=>y=(tR<|C5 ev,tR x,())):=Tot.ret ⟨hi',by rw[ew]⟩;refine Tot.bind (atP ok nok) λr70 h70=>Tot.ite (λn0=> ?_) (λ_=>go);refine Tot.bind (PD (l:=x.got) (n:=nA x.AN i) J) λr71 h71=>Tot.ite (λn1=> ?_) (λ_=>go);have hin:inb (nA x.AN i).to x.A8.length=Y:=FN e2.1 J;refine Tot.pos hin ?_;have ek: @rd A7 aJN x.A8 (nA x.AN i).to=kA x.A8 (nA x.AN i).to.toNat:=rfl;simp only[ek];have kok:=(ok.k (nA x.AN i).to.toNat J).1;have kf:=Bv (Bs kok).kok;have f2:=kf.il;refine Tot.bind (Tot.eq<|Hj kok) λr72 h72=> ?_;subst h72;refine Tot.bind (PD (l:=(stT<|kA x.A8 (nA x.AN i).to.toNat).inbox) (n:=nA x.AN i) J) λr73 h73=>Tot.ite (λn2=> ?_) (λ_=>go);exfalso;rw[Bz]at n1 n2;obtain h|h:=arw c st hm
  .rcases h with h|h
   .rw[h71.2 h]at n1;cases n1
   .rw[h73.2 h]at n2;cases n2
  .exact h70 n0 h
 .subst hy;refine Tot.ret ?_;have:U ((x.AN.length:Int)=((C5 ev).AN.length:Int))=Y:=AW (by rw[se]);simp only[this]
end Go.VS
end
end
