/- WholeBehind, part 25. Conditions: none. -/
import Derived.Test.YtfdlemkplejdnaaGreatA22
namespace Go.Proofs.YtfdlemkplejdnaaGreat
open Go.RowKit Go.Sort
open Value renaming int->ι,pointer->ψ,slice->ζ,tuple->χ,agg->φ,map->μ,bool->β
open IntKind renaming u64->υ,i64->ε,u16->ω
open Ending renaming returned->ϰ
open Go.Proofs.Tryz renaming prog->Ψ,underlying3->Θ,underlying147->Δ,underlying152->Γ,underlying202->Φ,underlying39->Ξ,underlying207->Ω
open Go renaming World->ϖ,Value->ϗ
set_option linter.unusedVariables false
set_option linter.unusedSimpArgs false
set_option maxHeartbeats 8000000
set_option maxRecDepth 100000
theorem f9 {x i:Int} {l:List Int}:x ∈ dG i l↔x=i\/x ∈ l:=by
 unfold dG;split
 ·rename_i h;exact⟨.inr,λg=>g.elim (λe=>e ▸ h) id⟩
 ·simp only[ZM,ZS];exact Or.comm
theorem f8 {x i:Int} {l:List Int}:x ∈ dy i l↔x ∈ l/\x≠i:=by unfold dy;rw[List.mem_filter];simp
theorem tZ (i:Int)(l:List Int):dG i l≠[]:=λh=>by have:i ∈ dG i l:=f9.2 (.inl rfl);rw[h] at this;cases this
def mK (L:List CD)(on:Int->Bool)(K:Int->List Int)(x:Int):Prop:=∀p j,j≠x->(j ∈ K p↔∃c,fc L j=some c/\c.par=p/\dz c=true/\(on j=true\/K j≠[]))
def nI (L:List CD)(on:Int->Bool)(K:Int->List Int):Prop:=∀p j,(j ∈ K p↔∃c,fc L j=some c/\c.par=p/\dz c=true/\(on j=true\/K j≠[]))
section
variable {L:List CD} {on:Int->Bool} {K:Int->List Int} {i p:Int} {c:CD}
theorem mK.add (hc:fc L i=some c)(hs:dz c=true)(hp:c.par=p)(hpi:p≠i)(H:mK L on K i)(h0:∀q,i ∉ K q)(ha:on i=true\/K i≠[]):mK L on (aw K p (dG i (K p))) p:=by
 intro q j hj;have e1:aw K p (dG i (K p)) j=K j:=ZI hj;rw[e1];by_cases hq:q=p
 ·subst hq;rw[show aw K q (dG i (K q)) q=dG i (K q) from ZP rfl,f9];by_cases K6:j=i
  ·subst K6;exact⟨λ_=>⟨c,hc,hp,hs,ha⟩,λ_=>.inl rfl⟩
  ·rw[<- H q j K6];exact⟨λh=>h.resolve_left K6,.inr⟩
 ·rw[show aw K p (dG i (K p)) q=K q from ZI hq];by_cases K6:j=i
  ·subst K6;refine⟨λh=>ax h (h0 q),λ⟨d,h1,h2,_⟩=>?_⟩;rw[hc] at h1;cases h1;exact ax (h2.symm.trans hp) hq
  ·exact H q j K6
theorem mK.full {K':Int->List Int} {l:List Int} (H:mK L on (aw K p l) p)(H0:mK L on K i)(hpi:p≠i)(hk:∀q,p ∈ aw K p l q↔p ∈ K q)(h:(K p≠[]/\l≠[])\/fc L p=none):nI L on (aw K p l):=by
 intro q j;by_cases hj:j=p
 ·subst hj;rw[hk q,H0 q j hpi,show aw K j l j=l from ZP rfl];rcases h with ⟨h1,h2⟩|h
  ·exact⟨λ⟨d,g1,g2,g3,_⟩=>⟨d,g1,g2,g3,.inr h2⟩,λ⟨d,g1,g2,g3,_⟩=>⟨d,g1,g2,g3,.inr h1⟩⟩
  ·exact⟨λ⟨d,g1,_⟩=>(by rw[h] at g1;cases g1),λ⟨d,g1,_⟩=>(by rw[h] at g1;cases g1)⟩
 ·exact H q j hj
theorem sI (hpi:p≠i)(q:Int):p ∈ aw K p (dG i (K p)) q↔p ∈ K q:=by
 unfold aw;split
 ·rename_i e;rw[f9,e];exact⟨λh=>h.resolve_left hpi,.inr⟩
 ·exact Iff.rfl
theorem sD (hpi:p≠i)(q:Int):p ∈ aw K p (dy i (K p)) q↔p ∈ K q:=by
 unfold aw;split
 ·rename_i e;rw[f8,e];exact⟨λh=>h.1,λh=>⟨h,hpi⟩⟩
 ·exact Iff.rfl
theorem mK.del (hc:fc L i=some c)(hp:c.par=p)(hpi:p≠i)(H:mK L on K i)(h0:∀q,i ∈ K q->q=p)(ha:¬(on i=true\/K i≠[])):mK L on (aw K p (dy i (K p))) p:=by
 intro q j hj;have e1:aw K p (dy i (K p)) j=K j:=ZI hj;rw[e1];by_cases K6:j=i
 ·subst K6;refine⟨λh=>?_,λ⟨d,h1,h2,h3,h4⟩=>ax h4 ha⟩;by_cases hq:q=p
  ·subst hq;rw[show aw K q (dy j (K q)) q=dy j (K q) from ZP rfl,f8] at h;exact ax rfl h.2
  ·rw[show aw K p (dy j (K p)) q=K q from ZI hq] at h;exact ax (h0 q h) hq
 ·rw[<- H q j K6];unfold aw;split
  ·rename_i e;rw[f8,e];exact⟨λh=>h.1,λh=>⟨h,K6⟩⟩
  ·exact Iff.rfl
end
section
variable {L:List CD} {on:Int->Bool}
theorem bM.head {xs:List Int} {i x:Int} (h:bM L i (x::xs)):x=i/\∃c,fc L i=some c/\dz c=true/\bM L c.par xs:=h
theorem ge:∀{xs:List Int} {i x:Int} {K:Int->List Int},bM L i xs->mK L on K x->x ∉ xs->(xs≠[]->on i=true\/K i≠[])->(∀y ∈ xs.tail,K y≠[])/\(xs≠[]->K 0≠[])
 | [],i,x,K,_,_,_,_=>⟨λ_ h=>by simp at h,λh=>ax rfl h⟩
 | [z],i,x,K,h,H,hx,ha=>by obtain⟨rfl,c,hc,hs,h0⟩:=h;have h0:c.par=0:=h0;have:=(H 0 z (λe=>hx (by simp[e]))).2 ⟨c,hc,h0,hs,ha ρp⟩;exact⟨λ_ h=>by simp at h,λ_ e=>by rw[e] at this;cases this⟩
 | z::p::r,i,x,K,h,H,hx,ha=>by
  obtain⟨rfl,c,hc,hs,hr⟩:=h;have hp:=hr.1;have:=(H p z (λe=>hx (by simp[e]))).2 ⟨c,hc,hp.symm,hs,ha ρp⟩;have hK:K p≠[]:=λe=>by rw[e] at this;cases this
  obtain⟨h1,h2⟩:=ge hr H (λe=>hx (by simp at e ⊢;exact .inr e)) (λ_=>.inr (hp ▸ hK));refine⟨λy hy=>?_,λ_=>h2 ρp⟩;simp only[List.tail_cons,ZC] at hy;rcases hy with rfl|hy
  ·exact hK
  ·exact h1 y hy
theorem oL (nz:fc L 0=none):∀{xs:List Int} {i:Int} {K:Int->List Int},bM L i xs->xs≠[]->(0::xs).Nodup->(∀y ∈ xs.tail,on y=false)->mK L on K i->(∀q,i ∉ K q)->(on i=true\/K i≠[])->nI L on (aX K xs).2/\(∀y,y ∈ (aX K xs).1↔y ∈ xs/\(y=i\/K y=[]))/\(∀p j,j ∈ K p->j ∈ (aX K xs).2 p)
 | [],i,K,_,h,_,_,_,_,_=>ax rfl h
 | [z],i,K,h,_,hn,_,H,h0,ha=>by
  obtain⟨rfl,c,hc,hs,hp⟩:=h;have hp:c.par=0:=hp;have hz:(0:Int)≠z:=λe=>by rw[<- e,nz] at hc;cases hc
  have A:=mK.add hc hs hp hz H h0 ha;refine⟨A.full H hz (sI hz) (.inr nz) (K':=K),λy=>?_,λp j hj=>?_⟩
  ·simp only[aX,ZS];exact⟨λe=>⟨e,.inl e⟩,λe=>e.1⟩
  ·simp only[aX];unfold aw;split
   ·rename_i e;rw[e] at hj;exact f9.2 (.inr hj)
   ·exact hj
 | z::p::r,i,K,h,_,hn,Le,H,h0,ha=>by
  obtain⟨rfl,c,hc,hs,hr⟩:=h;have hp:=hr.1;have Wn:(0::p::r).Nodup:=by simp at hn ⊢;exact⟨⟨hn.1.2.1,hn.1.2.2⟩,hn.2.2⟩
  have SC:p≠z:=λe=>by simp[e] at hn
  have A:=mK.add hc hs hp.symm SC H h0 ha;by_cases hK:K p=[]
  ·have Nd:bM L p (p::r):=hp ▸ hr;obtain⟨h1,h2,h3⟩:=oL nz Nd ρp Wn (λy hy=>Le y (by simp at hy ⊢;exact .inr hy)) A (λq hq=>by
    rw[sI SC q] at hq;obtain⟨d,_,_,_,g⟩:=(H q p SC).1 hq;rcases g with g|g
    ·rw[Le p ρp] at g;cases g
    ·exact g hK) (.inr (by rw[show aw K p (dG z (K p)) p=dG z (K p) from ZP rfl];exact tZ _ _))
   have e:aX K (z::p::r)=(z::(aX (aw K p (dG z (K p))) (p::r)).1,(aX (aw K p (dG z (K p))) (p::r)).2):=by rw[aX];exact ZP hK
   rw[e];refine⟨h1,λy=>?_,λq j hj=>h3 q j ?_⟩
   ·simp only[ZC];rw[h2 y];constructor
    ·rintro(rfl|⟨g1,g2⟩)
     ·exact⟨.inl rfl,.inl rfl⟩
     ·refine⟨.inr (by simpa using g1),.inr ?_⟩;by_cases hy:y=p
      ·rw[hy];exact hK
      ·rcases g2 with g2|g2
       ·exact ax g2 hy
       ·rw[show aw K p (dG z (K p)) y=K y from ZI hy] at g2;exact g2
    ·rintro⟨rfl|g1,g2⟩
     ·exact .inl rfl
     ·by_cases hyz:y=z
      ·exact .inl hyz
      ·refine .inr ⟨by simpa using g1,?_⟩;by_cases hy:y=p
       ·exact .inl hy
       ·right;rw[show aw K p (dG z (K p)) y=K y from ZI hy];exact g2.resolve_left hyz
   ·unfold aw;split
    ·rename_i e;rw[e] at hj;exact f9.2 (.inr hj)
    ·exact hj
  ·have e:aX K (z::p::r)=([z],aw K p (dG z (K p))):=by rw[aX];exact ZI hK
   rw[e];refine⟨A.full H SC (sI SC) (.inl ⟨hK,tZ _ _⟩) (K':=K),λy=>?_,λq j hj=>?_⟩
   ·simp only[ZS];have Nd:bM L p (p::r):=hp ▸ hr;obtain⟨g1,_⟩:=ge Nd H (ZD.1 (ZD.1 hn).2).1 (λ_=>.inr hK);constructor
    ·rintro rfl;exact⟨by simp,.inl rfl⟩
    ·rintro⟨hy,rfl|hk⟩
     ·rfl
     ·simp only[ZC] at hy;rcases hy with hy|hy|hy
      ·exact hy
      ·exact ax (hy ▸ hk) hK
      ·exact ax hk (g1 y (by simpa using hy))
   ·show j ∈ aw K p (dG z (K p)) q;unfold aw;split
    ·rename_i e;rw[e] at hj;exact f9.2 (.inr hj)
    ·exact hj
theorem lE (nz:fc L 0=none):∀{xs:List Int} {i:Int} {K:Int->List Int},bM L i xs->xs≠[]->(0::xs).Nodup->(∀y ∈ xs.tail,on y=false)->mK L on K i->(∀c,fc L i=some c->∀q,i ∈ K q->q=c.par)->¬(on i=true\/K i≠[])->nI L on (aH K xs).2/\(∀y ∈ xs,(y ∈ (aH K xs).1↔¬(on y=true\/(aH K xs).2 y≠[])))/\(∀p j,j ∈ (aH K xs).2 p->j ∈ K p)/\(∀j,j≠0->j ∉ xs.tail->(aH K xs).2 j=K j)
 | [],i,K,_,h,_,_,_,_,_=>ax rfl h
 | [z],i,K,h,_,hn,_,H,h0,ha=>by
  obtain⟨rfl,c,hc,hs,hp⟩:=h;have hp:c.par=0:=hp;have hz:(0:Int)≠z:=λe=>by rw[<- e,nz] at hc;cases hc
  have A:=mK.del hc hp hz H (λq hq=>(h0 c hc q hq).trans hp) ha;refine⟨A.full H hz (sD hz) (.inr nz) (K':=K),λy hy=>?_,λp j hj=>?_,λj h1 _=>ZI h1⟩
  ·simp only[ZS] at hy;subst hy;simp only[aH,ZS,true_iff];rw[show aw K 0 (dy y (K 0)) y=K y from ZI hz.symm];exact ha
  ·simp only[aH] at hj;unfold aw at hj;split at hj
   ·rename_i e;rw[e];exact(f8.1 hj).1
   ·exact hj
 | z::p::r,i,K,h,_,hn,Le,H,h0,ha=>by
  obtain⟨rfl,c,hc,hs,hr⟩:=h;have hp:=hr.1;have Wn:(0::p::r).Nodup:=by simp at hn ⊢;exact⟨⟨hn.1.2.1,hn.1.2.2⟩,hn.2.2⟩
  have SC:p≠z:=λe=>by simp[e] at hn
  have Ob:z≠0:=λe=>by simp[e] at hn
  have A:=mK.del hc hp.symm SC H (λq hq=>(h0 c hc q hq).trans hp.symm) ha;have Nd:bM L p (p::r):=hp ▸ hr;by_cases hK:dy z (K p)=[]
  ·obtain⟨h1,h2,h3,h4⟩:=lE nz Nd ρp Wn (λy hy=>Le y (by simp at hy ⊢;exact .inr hy)) A (λd hd q hq=>by
    rw[sD SC q] at hq;obtain⟨d',g1,g2,_,g⟩:=(H q p SC).1 hq;rw[hd] at g1;cases g1;exact g2.symm) (by
     rw[show aw K p (dy z (K p)) p=dy z (K p) from ZP rfl,Le p ρp];rintro(g|g)
     ·cases g
     ·exact g hK)
   have e:aH K (z::p::r)=(z::(aH (aw K p (dy z (K p))) (p::r)).1,(aH (aw K p (dy z (K p))) (p::r)).2):=by rw[aH];exact ZP hK
   rw[e];have hzr:z ∉ (p::r).tail:=λe=>by simp at hn e;exact hn.2.1.2 e
   have hkz:(aH (aw K p (dy z (K p))) (p::r)).2 z=K z:=(h4 z Ob hzr).trans (ZI SC.symm);refine⟨h1,λy hy=>?_,λq j hj=>?_,λj g1 g2=>?_⟩
   ·simp only[ZC];by_cases hyz:y=z
    ·subst hyz;simp only[true_or,true_iff];rw[hkz];exact ha
    ·have hy2:y ∈ p::r:=by simp only[ZC] at hy ⊢;exact hy.resolve_left hyz
     rw[<- h2 y hy2];exact⟨λg=>g.resolve_left hyz,.inr⟩
   ·have:=h3 q j hj;unfold aw at this;split at this
    ·rename_i e;rw[e];exact(f8.1 this).1
    ·exact this
   ·simp only[List.tail_cons,ZC,not_or] at g2;exact(h4 j g1 g2.2).trans (ZI g2.1)
  ·have e:aH K (z::p::r)=([z],aw K p (dy z (K p))):=by rw[aH];exact ZI hK
   rw[e];have F:nI L on (aw K p (dy z (K p))):=A.full H SC (sD SC) (.inl ⟨λe=>hK (by rw[e];rfl),hK⟩) (K':=K);refine⟨F,λy hy=>?_,λq j hj=>?_,λj g1 g2=>?_⟩
   ·simp only[ZS];by_cases hyz:y=z
    ·subst hyz;simp only[true_iff];rw[show aw K p (dy y (K p)) y=K y from ZI SC.symm];exact ha
    ·have hy2:y ∈ p::r:=by simp only[ZC] at hy ⊢;exact hy.resolve_left hyz
     have hkp:aw K p (dy z (K p)) p≠[]:=by rw[show aw K p (dy z (K p)) p=dy z (K p) from ZP rfl];exact hK
     obtain⟨g1,_⟩:=ge (x:=z) Nd (λq j _=>F q j) (ZD.1 (ZD.1 hn).2).1 (λ_=>.inr hkp);refine⟨λe=>ax e hyz,λg=>ax (.inr ?_) g⟩;simp only[ZC] at hy2;rcases hy2 with hy2|hy2
     ·rw[hy2];exact hkp
     ·exact g1 y (by simpa using hy2)
   ·have hj:j ∈ aw K p (dy z (K p)) q:=hj;unfold aw at hj;split at hj
    ·rename_i e;rw[e];exact(f8.1 hj).1
    ·exact hj
   ·simp only[List.tail_cons,ZC,not_or] at g2;exact ZI g2.1
end
theorem oK:∀{xs:List Int} {K:Int->List Int} {j:Int},j≠0->j ∉ xs.tail->(aX K xs).2 j=K j
 | [],_,_,_,_=>rfl
 | [z],_,j,h,_=>ZI h
 | z::p::r,K,j,h,h2=>by
  simp only[List.tail_cons,ZC,not_or] at h2;unfold aX;split
  ·exact(oK (xs:=p::r) h h2.2).trans (ZI h2.1)
  ·exact ZI h2.1
structure mC (L:List CD):Prop where
 nz:fc L 0=none
 par:∀i c,fc L i=some c->c.par=0\/∃d,fc L c.par=some d/\d.lf=false/\(dz c=true->dz d=true)
 rk:∃rk:Int->Nat,∀i c,fc L i=some c->rk i<=900/\(c.par≠0->rk c.par<rk i)
 cls:∀c ∈ L,Go.Proofs.YtfdlemkplejdnaaGreat.kd c.r0 c.r1 c.r2≠0/\(Go.Proofs.YtfdlemkplejdnaaGreat.kd c.l0 c.l1 c.l2≠0/\Go.Proofs.YtfdlemkplejdnaaGreat.kd c.l0 c.l1 c.l2≠4)/\Go.Proofs.YtfdlemkplejdnaaGreat.kd c.u0 c.u1 c.u2≠0
 len:L.length<=64
 ids:∀c ∈ L,fc L c.id=some c
theorem cG {L:List CD} {i:Int} {c:CD} (h:fc L i=some c):c ∈ L/\c.id=i:=by
 induction L with
 | nil=>cases h
 | cons a r ih=>exact ηG
structure iU (L:List CD) (i:Int) (xs:List Int):Prop where
 up:bQ L i xs
 len:xs.length<=1000
 nd:(0::xs).Nodup
 sh:(∀c,fc L i=some c->dz c=true)->bM L i xs
 ne:xs≠[]
 hd:i ∈ xs
 inn:∀y ∈ xs.tail,∃d,fc L y=some d/\d.lf=false
theorem mC.path {L:List CD} (h:mC L) {i:Int} {c:CD} (hc:fc L i=some c):∃xs,iU L i xs:=by
 obtain⟨rk,hr⟩:=h.rk;have Ra:∀n i c,fc L i=some c->rk i<=n->∃xs,bQ L i xs/\xs.length<=n+1/\(0::xs).Nodup/\(dz c=true->bM L i xs)/\(∀y ∈ xs,y=i\/rk y<rk i)/\(∃r,xs=i::r/\∀y ∈ r,∃d,fc L y=some d/\d.lf=false):=by
  intro n
  induction n with
  | zero=>
   intro i c hc hn;have ph:(0:Int)≠i:=λe=>by rw[<- e,h.nz] at hc;cases hc
   rcases h.par i c hc with h0|⟨d,hd,hl,hs⟩
   ·exact ηi
   ·have h0:c.par≠0:=λe=>by rw[e,h.nz] at hd;cases hd
    have:=(hr i c hc).2 h0;omega
  | succ n ih=>
   intro i c hc hn;have ph:(0:Int)≠i:=λe=>by rw[<- e,h.nz] at hc;cases hc
   rcases h.par i c hc with h0|⟨d,hd,hl,hs⟩
   ·exact ηi
   ·have h0:c.par≠0:=λe=>by rw[e,h.nz] at hd;cases hd
    have IJ:=(hr i c hc).2 h0;obtain⟨xs,g1,g2,g3,g4,g5,r,g6,g7⟩:=ih c.par d hd ρa;refine⟨i::xs,⟨c,hc,rfl,g1⟩,by simp;omega,?_,λs=>⟨rfl,c,hc,s,g4 (hs s)⟩,λy hy=>?_,xs,rfl,λy hy=>?_⟩
    ·rw[ZD] at g3 ⊢;rw[ZD];refine⟨?_,λhi=>?_,g3.2⟩
     ·simp only[ZC,not_or];exact⟨ph,g3.1⟩
     ·rcases g5 i hi with e|e
      ·rw[e] at IJ;omega
      ·omega
    ·rcases ZC.1 hy with e|e
     ·exact .inl e
     ·rcases g5 y e with e|e
      ·right;rw[e];exact IJ
      ·right;omega
    ·rw[g6] at hy;rcases ZC.1 hy with e|e
     ·rw[e];exact⟨d,hd,hl⟩
     ·exact g7 y e
 obtain⟨xs,g1,g2,g3,g4,g5,r,g6,g7⟩:=Ra (rk i) i c hc (ZR _);have:=(hr i c hc).1;exact⟨xs,g1,by omega,g3,λs=>g4 (s c hc),by rw[g6];simp,by rw[g6];simp,by rw[g6];exact g7⟩
def SS.okk (s:SS)(j:Int):Prop:=∀p,s.kd p j=if j ∈ s.A.K p then some ((s.e j).sh.t,s.fit j) else none
theorem dX {A:AS} {j:Int}:A.is j=true↔A.on j=true\/A.K j≠[]:=by unfold AS.is;simp only[Bool.or_eq_true,decide_eq_true_eq,List.length_pos_iff]
theorem SS.fit_same {s t:SS} {j:Int} (h1:(t.e j).c.lf=(s.e j).c.lf)(h2:t.A.is j=s.A.is j)(h3:(t.e j).cp.t=(s.e j).cp.t)(h4:t.kd j=s.kd j):t.fit j=s.fit j:=by unfold SS.fit;rw[h1,h2,h3,h4]
theorem nt:∀{xs:List Int} {s:SS} {i:Int},bQ s.L i xs->xs.Nodup->(∀y c,fc s.L y=some c->(s.e y).c=c)->nI s.L s.A.on s.A.K->(∀j c,fc s.L j=some c->s.A.is j=true->dz c=true)->(∀j,j ∉ xs->s.okk j)->(∀j ∈ xs,∀p,(p≠(s.e j).c.par\/s.A.is j=false)->s.kd p j=none)->∀j,(s.settle xs).okk j
 | [],s,i,_,_,_,_,_,h,_,j=>h j ρp
 | x::r,s,i,hu,hn,hec,hK,N3,h1,h2,j=>by
  obtain⟨c,hc,rfl,hur⟩:=hu;rw[ZD] at hn;have Jj:=hec x c hc;have Jy:∀y,y=c.par->y ∈ r\/fc s.L y=none:=by
   rintro y rfl;cases r with
   | nil=>exact .inr hur
   | cons z r=>obtain⟨_,_,e,_⟩:=hur;exact .inl (by simp[e])
  have Pp:c.par≠x:=λe=>by
   rcases Jy x e.symm with g|g
   ·exact hn.1 g
   ·rw[g] at hc;cases hc
  have RU:∀q k,fc s.L k=none->k ∉ s.A.K q:=λq k hk hm=>by obtain⟨d,hd,_⟩:=(hK q k).1 hm;rw[hk] at hd;cases hd
  have key:(∀k,k ∉ r->(s.settle1 x).okk k)/\(∀k,k≠x->∀q,(s.settle1 x).kd q k=s.kd q k)/\(s.settle1 x).L=s.L/\(s.settle1 x).e=s.e/\(s.settle1 x).A=s.A:=by
   unfold SS.settle1;split
   ·rename_i ha;refine⟨λk hk p=>?_,λk hk q=>?_,rfl,rfl,rfl⟩
    ·simp only[Jj];by_cases hkx:k=x
     ·subst hkx;by_cases hp:p=c.par
      ·subst hp;have hm:k ∈ s.A.K c.par:=(hK _ _).2 ⟨c,hc,rfl,N3 k c hc ha,dX.1 ha⟩;rw[ZP hm];show (if c.par=c.par then _ else _:TM) k=_;rw[ZP rfl];unfold aJ;rw[ZP rfl]
       congr 2
       symm;exact SS.fit_same rfl rfl rfl (by show aw s.kd c.par _ k=_;exact ZI (λe=>Pp e.symm))
      ·have hm:k ∉ s.A.K p:=λhm=>by
        obtain⟨d,hd,e,_⟩:=(hK p k).1 hm;rw[hc] at hd;cases hd;exact hp e.symm
       rw[ZI hm];show (if p=c.par then _ else s.kd p:TM) k=_;rw[ZI hp];exact h2 k ρp p (.inl (by rw[Jj];exact hp))
     ·have hko:=h1 k (by simp[hkx,hk]);have e1:(aw s.kd c.par (aJ (s.kd c.par) x (some ((s.e x).sh.t,s.fit x)))) p k=s.kd p k:=by
       unfold aw;split
       ·rename_i e;rw[e];exact ZI hkx
       ·rfl
      rw[e1,hko p];by_cases hm:k ∈ s.A.K p
      ·rw[ZP hm,ZP hm]
       congr 2
       symm;exact SS.fit_same rfl rfl rfl (by
        show aw s.kd c.par _ k=_;exact ZI (λe=>by
         rcases Jy k e with g|g
         ·exact hk g
         ·exact RU p k g hm))
      ·rw[ZI hm,ZI hm]
    ·simp only[Jj];unfold aw;split
     ·rename_i e;rw[e];exact ZI hk
     ·rfl
   ·rename_i ha;refine⟨λk hk=>?_,λ_ _ _=>rfl,rfl,rfl,rfl⟩;by_cases hkx:k=x
    ·subst hkx;intro p;have hm:k ∉ s.A.K p:=λhm=>by
      obtain⟨d,hd,e,_,g⟩:=(hK p k).1 hm;exact ha (dX.2 g)
     rw[ZI hm];exact h2 k ρp p (.inr (by simpa using ha))
    ·exact h1 k (by simp[hkx,hk])
  obtain⟨k1,k2,e1,e2,e3⟩:=key;refine nt (s:=s.settle1 x) (xs:=r) (i:=c.par) (by rw[e1];exact hur) hn.2 (by rw[e1,e2];exact hec) (by rw[e1,e3];exact hK) (by rw[e1,e3];exact N3) k1 (λk hk p hp=>?_) j;rw[e2,e3] at hp;rw[k2 k (λe=>hn.1 (e ▸ hk)) p];exact h2 k (by simp[hk]) p hp
theorem cI (s:SS)(xs:List Int):(s.settle xs).L=s.L/\(s.settle xs).e=s.e/\(s.settle xs).A=s.A/\(s.settle xs).lv=s.lv/\(s.settle xs).clk=s.clk/\(s.settle xs).acc=s.acc/\(s.settle xs).T=s.T/\(s.settle xs).Lm=s.Lm:=by
 induction xs generalizing s with
 | nil=>exact⟨rfl,rfl,rfl,rfl,rfl,rfl,rfl,rfl⟩
 | cons x r ih=>
  have e:(s.settle1 x).L=s.L/\(s.settle1 x).e=s.e/\(s.settle1 x).A=s.A/\(s.settle1 x).lv=s.lv/\(s.settle1 x).clk=s.clk/\(s.settle1 x).acc=s.acc/\(s.settle1 x).T=s.T/\(s.settle1 x).Lm=s.Lm:=by unfold SS.settle1;split<;>exact⟨rfl,rfl,rfl,rfl,rfl,rfl,rfl,rfl⟩
  obtain⟨h1,h2,h3,h4,h5,h6,h7,h8⟩:=ih (s.settle1 x);obtain⟨g1,g2,g3,g4,g5,g6,g7,g8⟩:=e;exact⟨h1.trans g1,h2.trans g2,h3.trans g3,h4.trans g4,h5.trans g5,h6.trans g6,h7.trans g7,h8.trans g8⟩
def SS.okl (s:SS)(j:Int):Prop:=s.lv j=match fc s.L j with
 | some c=>if c.lf=true/\SS.real c=true/\(s.e j).q≠[] then some ((s.e j).du.e,(s.e j).du.t) else none
 | none=>none
structure SS.Inv (s:SS):Prop where
 lok:mC s.L
 ec:∀i c,fc s.L i=some c->(s.e i).c=c
 on:∀i,s.A.on i=true↔∃c,fc s.L i=some c/\c.lf=true/\dz c=true/\(s.e i).q≠[]
 kk:nI s.L s.A.on s.A.K
 kd:∀j,s.okk j
 lv:∀j,s.okl j
section
variable {s t:SS}
theorem SS.Inv.leaf (h:s.Inv) {i:Int} {c:CD} (hc:fc s.L i=some c)(hl:c.lf=true):s.A.K i=[]:=by
 cases e:s.A.K i with
 | nil=>rfl
 | cons k r=>
  have hk:k ∈ s.A.K i:=by rw[e];simp
  obtain⟨d,hd,hp,_⟩:=(h.kk i k).1 hk;rcases h.lok.par k d hd with e|⟨d',LS,hl',_⟩
  ·rw[<- hp,e,h.lok.nz] at hc;cases hc
  ·rw[hp,hc] at LS;cases LS;rw[hl] at hl';cases hl'
theorem SS.Inv.wf (h:s.Inv):s.Wf:=by
 refine⟨λc hc=>?_,h.lok.nz,λp j hj=>?_,λc hc=>?_,h.ec,λj hj=>?_,h.lok.cls,by have:=h.lok.len;omega⟩
 ·unfold bV;rcases h.lok.par c.id c (h.lok.ids c hc) with e|⟨d,hd,hl,_⟩
  ·simp[e]
  ·rw[hd];simp[hl]
 ·rw[h.kd j p] at hj;by_cases hm:j ∈ s.A.K p
  ·obtain⟨c,hc,hp,_⟩:=(h.kk p j).1 hm;exact⟨c,hc,hp⟩
  ·rw[ZI hm] at hj;exact ax rfl hj
 ·obtain⟨xs,P⟩:=h.lok.path (h.lok.ids c hc);exact⟨xs,P.up,P.len⟩
 ·have:=h.lv j;unfold SS.okl at this;cases hc:fc s.L j with
  | none=>rw[hc] at this;exact ax this hj
  | some c=>
   rw[hc] at this;by_cases g:c.lf=true/\SS.real c=true/\(s.e j).q≠[]
   ·exact⟨c,rfl,g.1⟩
   ·simp only[ZI g] at this;exact ax this hj
theorem SS.Inv.same (h:s.Inv)(hL:t.L=s.L)(hA:t.A=s.A)(hk:t.kd=s.kd)(hl:t.lv=s.lv)(he:∀j,(t.e j).c=(s.e j).c/\((t.e j).q=[]↔(s.e j).q=[])/\(t.e j).sh.t=(s.e j).sh.t/\(t.e j).cp.t=(s.e j).cp.t/\(t.e j).du.e=(s.e j).du.e/\(t.e j).du.t=(s.e j).du.t):t.Inv:=by
 refine⟨hL ▸ h.lok,λi c hc=>?_,λi=>?_,by rw[hL,hA];exact h.kk,λj p=>?_,λj=>?_⟩
 ·rw[(he i).1];exact h.ec i c (hL ▸ hc)
 ·rw[hA,hL,h.on i];constructor<;>rintro⟨c,h1,h2,h3,h4⟩
  ·exact⟨c,h1,h2,h3,λe=>h4 ((he i).2.1.1 e)⟩
  ·exact⟨c,h1,h2,h3,λe=>h4 ((he i).2.1.2 e)⟩
 ·rw[hA,hk,h.kd j p,(he j).2.2.1,SS.fit_same (t:=t) (s:=s) (by rw[(he j).1]) (by rw[hA]) (he j).2.2.2.1 (by rw[hk])]
 ·have:=h.lv j;unfold SS.okl at this ⊢;rw[hl,hL,this];cases fc s.L j with
  | none=>rfl
  | some c=>simp only[ne_eq,(he j).2.1,(he j).2.2.2.2.1,(he j).2.2.2.2.2]
end
theorem Cj {L:List CD} {A:AS} (lok:mC L)(q:Int->List PK)(on:∀i,A.on i=true↔∃c,fc L i=some c/\c.lf=true/\dz c=true/\q i≠[])(kk:nI L A.on A.K):∀j c,fc L j=some c->A.is j=true->dz c=true:=by
 intro j c hc hj;rcases dX.1 hj with g|g
 ·obtain⟨d,hd,_,hs,_⟩:=(on j).1 g;rw[hc] at hd;cases hd;exact hs
 ·obtain⟨k,hk⟩:=List.exists_mem_of_ne_nil _ g;obtain⟨d,hd,hp,hs,_⟩:=(kk j k).1 hk;rcases lok.par k d hd with e|⟨d',LS,_,hs'⟩
  ·rw[<- hp,e,lok.nz] at hc;cases hc
  ·rw[hp,hc] at LS;cases LS;exact hs' hs
theorem qf {L:List CD}:∀{xs:List Int} {i:Int},bQ L i xs->∀y ∈ xs,∀c,fc L y=some c->c.par ∈ xs.tail\/fc L c.par=none
 | [],_,_,y,h,_,_=>by simp at h
 | [z],i,⟨c,h1,h2,h3⟩,y,h,d,hd=>by simp only[ZS] at h;subst h;subst h2;rw[h1] at hd;cases hd;exact .inr h3
 | z::p::r,i,⟨c,h1,h2,h3⟩,y,h,d,hd=>by
  obtain⟨c',k1,k2,k3⟩:=h3;rcases ZC.1 h with h|h
  ·subst h;subst h2;rw[h1] at hd;cases hd;exact .inl (by simp[k2])
  ·rcases qf (xs:=p::r) ⟨c',k1,k2,k3⟩ y h d hd with g|g
   ·exact .inl (by simp only[List.tail_cons] at g ⊢;exact rt _ g)
   ·exact .inr g
section
variable {s u:SS} {i:Int} {xs:List Int}
theorem SS.Inv.rebuild (h:s.Inv)(P:iU s.L i xs)(hL:u.L=s.L)(hec:∀i c,fc s.L i=some c->(u.e i).c=c)(Le:∀i,u.A.on i=true↔∃c,fc s.L i=some c/\c.lf=true/\dz c=true/\(u.e i).q≠[])(hkk:nI s.L u.A.on u.A.K)(hlv:∀j,u.okl j)
  (PH:∀j,j≠0->j ∉ xs->u.A.on j=s.A.on j/\u.A.K j=s.A.K j/\(u.e j).cp.t=(s.e j).cp.t/\(∀p,j ∈ s.A.K p->(u.e j).sh.t=(s.e j).sh.t)/\u.kd j=s.kd j)
  (XZ:∀p j,j ∉ xs->u.kd p j=s.kd p j) (Mm:∀j ∈ xs,∀p,u.kd p j=none\/u.kd p j=s.kd p j) (hina:∀j ∈ xs,u.A.is j=false->∀p,u.kd p j=none):(u.settle xs).Inv:=by
 obtain⟨e1,e2,e3,e4,_⟩:=cI u xs;have RU:∀(A:AS),nI s.L A.on A.K->∀q k,fc s.L k=none->k ∉ A.K q:=λA hA q k hk hm=>by obtain⟨d,hd,_⟩:=(hA q k).1 hm;rw[hk] at hd;cases hd
 have ok:∀j,(u.settle xs).okk j:=by
  refine nt (i:=i) (by rw[hL];exact P.up) (ZD.1 P.nd).2 (by rw[hL];exact hec) (by rw[hL];exact hkk) (by rw[hL];exact Cj h.lok (λi=>(u.e i).q) Le hkk) (λj hj p=>?_) (λj hj p hp=>?_)
  ·rw[XZ p j hj,h.kd j p];cases hc:fc s.L j with
   | none=>rw[ZI (RU _ h.kk p j hc),ZI (RU _ hkk p j hc)]
   | some c=>
    have hj0:j≠0:=λe=>by rw[e,h.lok.nz] at hc;cases hc
    obtain⟨g1,g2,g3,g4,g5⟩:=PH j hj0 hj;have iff:j ∈ u.A.K p↔j ∈ s.A.K p:=by rw[hkk p j,h.kk p j,g1,g2]
    by_cases hm:j ∈ s.A.K p
    ·rw[ZP hm,ZP (iff.2 hm),g4 p hm,SS.fit_same (t:=u) (s:=s) (by rw[hec j c hc,h.ec j c hc]) (by unfold AS.is;rw[g1,g2]) g3 g5]
    ·rw[ZI hm,ZI (λg=>hm (iff.1 g))]
  ·rcases hp with hp|hp
   ·rcases Mm j hj p with g|g
    ·exact g
    ·rw[g,h.kd j p,ZI];intro hm;obtain⟨d,hd,e,_⟩:=(h.kk p j).1 hm;rw[hec j d hd] at hp;exact hp e.symm
   ·exact hina j hj hp p
 refine⟨by rw[e1,hL];exact h.lok,by rw[e1,e2,hL];exact hec,by rw[e1,e2,e3,hL];exact Le,by rw[e1,e3,hL];exact hkk,ok,λj=>?_⟩;have:=hlv j;unfold SS.okl at this ⊢;rw[e1,e2,e4];exact this
end
section
variable {s:SS} {i:Int} {xs:List Int} {c:CD}
theorem jj (len:Int)(b:Bool):(s.due i len b).L=s.L/\(s.due i len b).A=s.A/\(s.due i len b).kd=s.kd/\(∀j,((s.due i len b).e j).c=(s.e j).c/\((s.due i len b).e j).q=(s.e j).q/\((s.due i len b).e j).sh=(s.e j).sh/\((s.due i len b).e j).cp=(s.e j).cp/\((s.due i len b).e j).tot=(s.e j).tot/\(j≠i->((s.due i len b).e j).du=(s.e j).du/\(s.due i len b).lv j=s.lv j))/\(s.due i len b).clk=s.clk/\(s.due i len b).acc=s.acc/\(s.due i len b).T=s.T/\(s.due i len b).Lm=s.Lm:=by
 have ee:∀(l:LF) j,((s.duesTo i l).e j).c=(s.e j).c/\((s.duesTo i l).e j).q=(s.e j).q/\((s.duesTo i l).e j).sh=(s.e j).sh/\((s.duesTo i l).e j).cp=(s.e j).cp/\((s.duesTo i l).e j).tot=(s.e j).tot/\(j≠i->((s.duesTo i l).e j).du=(s.e j).du/\(s.duesTo i l).lv j=s.lv j):=λl j=>by unfold SS.duesTo SS.setE aw aJ;exact ξE
 unfold SS.due;split
 ·dsimp only;split
  ·refine⟨rfl,rfl,rfl,λj=>?_,rfl,rfl,rfl,rfl⟩;obtain⟨h1,h2,h3,h4,h5,h6⟩:=ee (if b then (s.e i).du.took len (aZ (s.e i).q) else (s.e i).du.headed (aZ (s.e i).q)) j;refine⟨h1,h2,h3,h4,h5,λhj=>⟨(h6 hj).1,?_⟩⟩;exact(show aJ _ i none j=_ from ZI hj).trans (h6 hj).2
  ·exact⟨rfl,rfl,rfl,ee _,rfl,rfl,rfl,rfl⟩
 ·exact⟨rfl,rfl,rfl,λj=>⟨rfl,rfl,rfl,rfl,rfl,λ_=>⟨rfl,rfl⟩⟩,rfl,rfl,rfl,rfl⟩
theorem zN (len:Int)(b:Bool)(hc:fc s.L i=some c)(Jj:(s.e i).c=c)(hl:c.lf=true)(h0:SS.real c=false->s.lv i=none):(s.due i len b).okl i:=by
 obtain⟨h1,_,_,h4,_⟩:=jj (s:=s) (i:=i) len b;have h4:=h4 i;unfold SS.okl;rw[h1,hc];simp only[];rw[h4.2.1];unfold SS.due;rw[Jj];cases hr:SS.real c with
 | false=>simp only[Bool.false_eq_true,if_false,false_and,and_false];exact h0 hr
 | true=>
  by_cases hq:(s.e i).q=[]
  ·simp[hl,hq,aJ]
  ·simp[hl,hq,SS.duesTo,SS.setE,aw,aJ]
theorem kn (s:SS)(y:Int):(s.sleep1 y).clk=s.clk/\(s.sleep1 y).acc=s.acc/\(s.sleep1 y).T=s.T/\(s.sleep1 y).Lm=s.Lm/\(∀j,((s.sleep1 y).e j).cp=(s.e j).cp/\((s.sleep1 y).e j).du=(s.e j).du/\((s.sleep1 y).e j).tot=(s.e j).tot)/\(∀p j,(s.sleep1 y).kd p j=if j=y/\p=(s.e y).c.par then none else s.kd p j)/\(∀p j,(s.e j).c.par=p->(s.sleep1 y).kd p j≠none->(s.sleep1 y).e j=s.e j):=by
 unfold SS.sleep1;refine⟨rfl,rfl,rfl,rfl,λj=>?_,λp j=>?_,λp j hp hn=>?_⟩
 ·dsimp only;split
  ·dsimp only;split<;>exact⟨rfl,rfl,rfl⟩
  ·exact⟨rfl,rfl,rfl⟩
 ·dsimp only;unfold aw aJ;by_cases h1:p=(s.e y).c.par
  ·subst h1;simp
  ·simp[h1]
 ·dsimp only at hn ⊢;split
  ·rename_i Jg;dsimp only;split
   ·rename_i hj;rw[hj.2] at hp;rw[<- hp,show aw s.kd (s.e y).c.par (aJ (s.kd (s.e y).c.par) y none) (s.e y).c.par=aJ (s.kd (s.e y).c.par) y none from ZP rfl] at hn;exact ax (Jg j) hn
   ·rfl
  ·rfl
theorem fI:∀(ys:List Int)(s:SS),(ys.foldl SS.sleep1 s).L=s.L/\(ys.foldl SS.sleep1 s).A=s.A/\(ys.foldl SS.sleep1 s).lv=s.lv/\(∀j,((ys.foldl SS.sleep1 s).e j).c=(s.e j).c/\((ys.foldl SS.sleep1 s).e j).q=(s.e j).q/\((ys.foldl SS.sleep1 s).e j).cp=(s.e j).cp/\((ys.foldl SS.sleep1 s).e j).du=(s.e j).du/\((ys.foldl SS.sleep1 s).e j).tot=(s.e j).tot)/\(∀p j,(ys.foldl SS.sleep1 s).kd p j=if j ∈ ys/\p=(s.e j).c.par then none else s.kd p j)/\(∀p j,(s.e j).c.par=p->(ys.foldl SS.sleep1 s).kd p j≠none->(ys.foldl SS.sleep1 s).e j=s.e j)/\((ys.foldl SS.sleep1 s).clk=s.clk/\(ys.foldl SS.sleep1 s).acc=s.acc/\(ys.foldl SS.sleep1 s).T=s.T/\(ys.foldl SS.sleep1 s).Lm=s.Lm)
 | [],s=>⟨rfl,rfl,rfl,λ_=>⟨rfl,rfl,rfl,rfl,rfl⟩,λp j=>by simp,λ_ _ _ _=>rfl,rfl,rfl,rfl,rfl⟩
 | y::r,s=>by
  obtain⟨h1,h2,h3,h4,h5,h6,h7⟩:=fI r (s.sleep1 y);obtain⟨g1,g2,g3,g4,_⟩:=eK s y;obtain⟨m1,m2,m3,m4,m5,m6,m7⟩:=kn s y;simp only[List.foldl_cons];have kdeq:∀p j,(r.foldl SS.sleep1 (s.sleep1 y)).kd p j=if j ∈ y::r/\p=(s.e j).c.par then none else s.kd p j:=λp j=>by
   rw[h5,m6,(g2 j).1];by_cases a:j ∈ r/\p=(s.e j).c.par
   ·rw[ZP a,ZP ⟨by simp[a.1],a.2⟩]
   ·rw[ZI a];by_cases b:j=y/\p=(s.e y).c.par
    ·rw[ZP b,ZP ⟨by simp[b.1],by rw[b.1];exact b.2⟩]
    ·rw[ZI b,ZI];rintro⟨hm,hp⟩;rcases ZC.1 hm with e|e
     ·exact b ⟨e,by rw[<- e];exact hp⟩
     ·exact a ⟨e,hp⟩
  refine⟨h1.trans g1,h2.trans g4,h3.trans g3,λj=>⟨(h4 j).1.trans (g2 j).1,(h4 j).2.1.trans (g2 j).2,(h4 j).2.2.1.trans (m5 j).1,(h4 j).2.2.2.1.trans (m5 j).2.1,(h4 j).2.2.2.2.trans (m5 j).2.2⟩,kdeq,λp j hp hn=>?_,h7.1.trans m1,h7.2.1.trans m2,h7.2.2.1.trans m3,h7.2.2.2.trans m4⟩;rw[h6 p j (by rw[(g2 j).1];exact hp) hn];refine m7 p j hp (λe=>hn ?_);rw[h5,e];split<;>rfl
theorem SS.Inv.take {now:Int} {b:Bool} {p:PK} {r:List PK} (h:s.Inv)(hc:fc s.L i=some c)(hl:c.lf=true)(hq:(s.e i).q=p::r)(P:iU s.L i xs):(s.take now i b xs).Inv:=by
 rw[kQ hq];obtain⟨s1,Ju⟩:=Nq (xs.foldl (SS.take1 p.len) (({s with clk:=now}:SS).setE i {s.e i with q:=r}));rw[Ju];have f:=fu p.len xs (({s with clk:=now}:SS).setE i {s.e i with q:=r});rw[Ju] at f;obtain⟨f1,f2,f3,f4,f5⟩:=f;have f6:∀j,j ∉ xs->s1.e j=s.e j:=λj hj=>by rw[<- Ju,gh hj];have K6:j≠i:=λe=>hj (by rw[e];exact P.hd);exact ZI K6
 have fe:∀j,((({s with clk:=now}:SS).setE i {s.e i with q:=r}).e j).c=(s.e j).c/\((({s with clk:=now}:SS).setE i {s.e i with q:=r}).e j).q=(if j=i then r else (s.e j).q)/\((({s with clk:=now}:SS).setE i {s.e i with q:=r}).e j).du=(s.e j).du:=λj=>by unfold SS.setE aw;exact ξE
 have Jj:=h.ec i c hc;obtain⟨d1,d2,d3,d4,_⟩:=jj (s:=s1) (i:=i) p.len b;have L1:s1.L=s.L:=f1;have A1:s1.A=s.A:=f3;have K1:s1.kd=s.kd:=f2;have V1:s1.lv=s.lv:=f4;have SM:∀j,(s1.due i p.len b).okl j:=λj=>by
  by_cases hj:j=i
  ·subst hj;refine zN p.len b (by rw[L1];exact hc) (((f5 j).1.trans (fe j).1).trans Jj) hl (λhr=>?_);have:=h.lv j;unfold SS.okl at this;rw[hc] at this;rw[V1,this];simp[hr]
  ·have:=h.lv j;unfold SS.okl at this ⊢;rw[d1,L1,((d4 j).2.2.2.2.2 hj).2,V1,this,(d4 j).2.1,(f5 j).2.1,(fe j).2.1,ZI hj,((d4 j).2.2.2.2.2 hj).1,(f5 j).2.2,(fe j).2.2]
 have ec2:∀j c,fc s.L j=some c->((s1.due i p.len b).e j).c=c:=λj c hc=>by rw[(d4 j).1,(f5 j).1,(fe j).1];exact h.ec j c hc
 have q2:∀j,((s1.due i p.len b).e j).q=if j=i then r else (s.e j).q:=λj=>by rw[(d4 j).2.1,(f5 j).2.1,(fe j).2.1]
 have e2:∀j,j ∉ xs->((s1.due i p.len b).e j).sh=(s.e j).sh/\((s1.due i p.len b).e j).cp=(s.e j).cp:=λj hj=>by rw[(d4 j).2.2.1,(d4 j).2.2.2.1,f6 j hj];exact⟨rfl,rfl⟩
 obtain⟨s2,Ja⟩:=Nq (s1.due i p.len b);rw[Ja] at SM ec2 q2 e2 d1 d2 d3 ⊢;have L2:s2.L=s.L:=d1.trans L1;have A2:s2.A=s.A:=d2.trans A1;have K2:s2.kd=s.kd:=d3.trans K1;have plain:(∀i',s.A.on i'=true↔∃c,fc s.L i'=some c/\c.lf=true/\dz c=true/\(s2.e i').q≠[])->(s2.settle xs).Inv:=λLe=>by refine h.rebuild P L2 ec2 (by rw[A2];exact Le) (by rw[A2];exact h.kk) SM (λj _ hj=>⟨by rw[A2],by rw[A2],by rw[(e2 j hj).2],λ_ _=>by rw[(e2 j hj).1],by rw[K2]⟩) (λp j _=>by rw[K2]) (λj _ p=>.inr (by rw[K2])) (λj hj hi p=>?_);rw[K2,h.kd j p,ZI];intro hm;obtain⟨d,hd,_,_,g⟩:=(h.kk p j).1 hm;rw[A2,dX.2 g] at hi;cases hi
 by_cases hr:(s2.e i).q=[]
 ·rw[ZP hr];have Mn:r=[]:=by have:=q2 i;rw[ZP rfl,hr] at this;exact this.symm
  unfold SS.sleep;rw[ec2 i c hc,A2];by_cases MD:dz c=true/\s.A.is i=true
  ·rw[ZP MD];have JX:=P.sh (λd hd=>by rw[hc] at hd;cases hd;exact MD.1);have oni:∀y ∈ xs.tail,aw s.A.on i false y=false:=λy hy=>by
    unfold aw;split
    ·rfl
    ·cases ho:s.A.on y with
     | false=>rfl
     | true=>obtain⟨d,hd,KZ,_⟩:=(h.on y).1 ho;obtain⟨d',LS,N5⟩:=P.inn y hy;exact ηA
   have hK0:s.A.K i=[]:=h.leaf hc hl;have YN:mK s.L (aw s.A.on i false) s.A.K i:=λq j hj=>by rw[h.kk q j,show aw s.A.on i false j=s.A.on j from ZI hj]
   obtain⟨o1,o2,o3,o4⟩:=lE h.lok.nz JX P.ne P.nd oni YN (λd hd q hm=>by
    obtain⟨d',LS,e,_⟩:=(h.kk q i).1 hm;rw[hd] at LS;cases LS;exact e.symm) (by
     rw[show aw s.A.on i false i=false from ZP rfl,hK0];rintro(g|g)
     ·cases g
     ·exact g rfl)
   obtain⟨s3,KG⟩:=Nq ({s2 with A:=⟨aw s.A.on i false,(aH s.A.K xs).2⟩}:SS);have a3:s3.L=s.L/\s3.e=s2.e/\s3.A=⟨aw s.A.on i false,(aH s.A.K xs).2⟩/\s3.lv=s2.lv/\s3.kd=s.kd:=by rw[<- KG];exact⟨L2,rfl,rfl,rfl,K2⟩
   obtain⟨Xz,Pg,QH,a34,Qf⟩:=a3;rw[KG];obtain⟨z1,z2,z3,z4,z5,z6,_⟩:=fI (aH s.A.K xs).1 s3;obtain⟨u,hu⟩:=Nq ((aH s.A.K xs).1.foldl SS.sleep1 s3);rw[hu] at z1 z2 z3 z4 z5 z6 ⊢;have Rf:∀j d,fc s.L j=some d->(s3.e j).c.par=d.par:=λj d hd=>by rw[Pg,ec2 j d hd]
   refine h.rebuild P (z1.trans Xz) (λj d hd=>by rw[(z4 j).1,Pg];exact ec2 j d hd) (λj=>?_) (by rw[z2,QH];exact o1) (λj=>?_) (λj hj0 hj=>?_) (λq j hj=>?_) (λj hj q=>?_) (λj hj hi q=>?_)
   ·rw[z2,QH,(z4 j).2.1,Pg,q2];show aw s.A.on i false j=true↔_;by_cases hj:j=i
    ·subst hj;rw[show aw s.A.on j false j=false from ZP rfl,ZP rfl];exact⟨λg=>(by cases g),λ⟨_,_,_,_,g⟩=>ax Mn g⟩
    ·rw[show aw s.A.on i false j=s.A.on j from ZI hj,ZI hj];exact h.on j
   ·have:=SM j;unfold SS.okl at this ⊢;rw[z1,Xz,z3,a34,(z4 j).2.1,(z4 j).2.2.2.1,Pg,this,L2]
   ·have K6:j≠i:=λe=>hj (e ▸ P.hd);refine⟨by rw[z2,QH];exact ZI K6,by rw[z2,QH];exact o4 j hj0 (λe=>hj (List.mem_of_mem_tail e)),by rw[(z4 j).2.2.1,Pg,(e2 j hj).2],λq hm=>?_,funext λk=>?_⟩
    ·obtain⟨d,hd,JW,_⟩:=(h.kk q j).1 hm;rw[z6 q j (by rw[Rf j d hd];exact JW) (by
      rw[z5,ZI (λg=>hj (eV j g.1)),Qf,h.kd j q,ZP hm];simp),Pg,(e2 j hj).1]
    ·rw[z5,Qf];by_cases g:k ∈ (aH s.A.K xs).1/\j=(s3.e k).c.par
     ·exfalso;have hk:=eV k g.1;obtain⟨d,hd⟩:=eA P.up k hk;have hp:=g.2;rw[Rf k d hd] at hp;rcases qf P.up k hk d hd with w|w
      ·exact hj (List.mem_of_mem_tail (hp ▸ w))
      ·rcases h.lok.par k d hd with v|⟨d',LS,_⟩
       ·exact hj0 (hp.trans v)
       ·rw[w] at LS;cases LS
     ·rw[ZI g]
   ·rw[z5,ZI (λg=>hj (eV j g.1)),Qf]
   ·rw[z5,Qf];split
    ·exact .inl rfl
    ·exact .inr rfl
   ·have hn:j ∈ (aH s.A.K xs).1:=(o2 j hj).2 (λg=>by
     rw[z2,QH] at hi;rw[dX.2 g] at hi;cases hi)
    rw[z5,Qf];by_cases e:q=(s3.e j).c.par
    ·rw[ZP ⟨hn,e⟩]
    ·rw[ZI (λg=>e g.2),h.kd j q,ZI];intro hm;obtain⟨d,hd,JW,_⟩:=(h.kk q j).1 hm;exact e (by rw[Rf j d hd];exact JW.symm)
  ·rw[ZI MD];refine plain (λj=>?_);rw[h.on j,q2];by_cases hj:j=i
   ·subst hj;rw[ZP rfl];constructor
    ·rintro⟨d,hd,g1,g2,g3⟩;rw[hc] at hd;cases hd;exact ax ⟨g2,dX.2 (.inl ((h.on j).2 ⟨c,hc,g1,g2,g3⟩))⟩ MD
    ·rintro⟨_,_,_,_,g⟩;exact ax Mn g
   ·rw[ZI hj]
 ·rw[ZI hr];refine plain (λj=>?_);rw[h.on j,q2];by_cases hj:j=i
  ·subst hj;have Mn:r≠[]:=by have:=q2 j;rw[ZP rfl] at this;rw[<- this];exact hr
   rw[ZP rfl];constructor<;>rintro⟨d,g1,g2,g3,g4⟩
   ·exact⟨d,g1,g2,g3,Mn⟩
   ·exact⟨d,g1,g2,g3,by rw[hq];simp⟩
  ·rw[ZI hj]
end
theorem gm (now:Int):∀(ys:List Int)(s:SS),(ys.foldl (SS.wake1 now) s).L=s.L/\(ys.foldl (SS.wake1 now) s).A=s.A/\(ys.foldl (SS.wake1 now) s).lv=s.lv/\(ys.foldl (SS.wake1 now) s).kd=s.kd/\(∀j,((ys.foldl (SS.wake1 now) s).e j).c=(s.e j).c/\((ys.foldl (SS.wake1 now) s).e j).q=(s.e j).q/\((ys.foldl (SS.wake1 now) s).e j).du=(s.e j).du/\((ys.foldl (SS.wake1 now) s).e j).tot=(s.e j).tot/\(j ∉ ys->(ys.foldl (SS.wake1 now) s).e j=s.e j))/\(ys.foldl (SS.wake1 now) s).clk=s.clk/\(ys.foldl (SS.wake1 now) s).acc=s.acc/\(ys.foldl (SS.wake1 now) s).T=s.T/\(ys.foldl (SS.wake1 now) s).Lm=s.Lm
 | [],s=>⟨rfl,rfl,rfl,rfl,λ_=>⟨rfl,rfl,rfl,rfl,λ_=>rfl⟩,rfl,rfl,rfl,rfl⟩
 | y::r,s=>by
  obtain⟨h1,h2,h3,h4,h5,h6,h7,h8,h9⟩:=gm now r (s.wake1 now y);have g:∀j,((s.wake1 now y).e j).c=(s.e j).c/\((s.wake1 now y).e j).q=(s.e j).q/\((s.wake1 now y).e j).du=(s.e j).du/\((s.wake1 now y).e j).tot=(s.e j).tot/\(j≠y->(s.wake1 now y).e j=s.e j):=λj=>ηr
  refine⟨h1,h2,h3,h4,λj=>⟨(h5 j).1.trans (g j).1,(h5 j).2.1.trans (g j).2.1,(h5 j).2.2.1.trans (g j).2.2.1,(h5 j).2.2.2.1.trans (g j).2.2.2.1,λhj=>?_⟩,h6,h7,h8,h9⟩;simp only[ZC,not_or] at hj;exact((h5 j).2.2.2.2 hj.2).trans ((g j).2.2.2.2 hj.1)
section
variable {s:SS} {i:Int} {xs:List Int} {c:CD}
theorem SS.Inv.wake {s1:SS} {now:Int} {p:PK} {len:Int} (h:s.Inv)(hc:fc s.L i=some c)(hl:c.lf=true)(hq:(s.e i).q=[])(P:iU s.L i xs)(h1:s1.L=s.L/\s1.A=s.A/\s1.kd=s.kd/\s1.lv=s.lv/\(∀j,j≠i->s1.e j=s.e j)/\(s1.e i).c=c/\(s1.e i).q=[p]/\(s1.e i).sh=(s.e i).sh/\(s1.e i).cp=(s.e i).cp):(s1.wake now i len xs).Inv:=by
 obtain⟨L1,A1,K1,V1,E1,C1,Q1,S1,P1⟩:=h1
 -- the dues
 obtain⟨s2,Ja⟩:=Nq (if SS.real (s1.e i).c then s1.duesTo i (((s1.e i).du.woke (s1.e i).c.r0 (s1.e i).c.r1 (s1.e i).c.r2 now).headed len) else s1);have f2:s2.L=s.L/\s2.A=s.A/\s2.kd=s.kd/\(∀j,(s2.e j).c=(s1.e j).c/\(s2.e j).q=(s1.e j).q/\(s2.e j).sh=(s1.e j).sh/\(s2.e j).cp=(s1.e j).cp/\(j≠i->s2.e j=s1.e j/\s2.lv j=s1.lv j))/\s2.okl i:=by
  rw[<- Ja];split
  ·rename_i hr;refine⟨L1,A1,K1,λj=>?_,?_⟩
   ·unfold SS.duesTo SS.setE aw aJ;exact ξE
   ·unfold SS.okl;rw[show (s1.duesTo i (((s1.e i).du.woke (s1.e i).c.r0 (s1.e i).c.r1 (s1.e i).c.r2 now).headed len)).L=s.L from L1,hc];rw[C1] at hr;simp[SS.duesTo,SS.setE,aw,aJ,hr,hl,Q1]
  ·rename_i hr;refine⟨L1,A1,K1,λj=>⟨rfl,rfl,rfl,rfl,λ_=>⟨rfl,rfl⟩⟩,?_⟩;have:=h.lv i;unfold SS.okl at this ⊢;rw[hc] at this;rw[C1] at hr;rw[L1,hc,V1,this];simp[hr]
 obtain⟨L2,A2,K2,E2,O2⟩:=f2;have SM:∀j,s2.okl j:=λj=>by
  by_cases hj:j=i
  ·rw[hj];exact O2
  ·have:=h.lv j;unfold SS.okl at this ⊢;rw[L2,((E2 j).2.2.2.2 hj).2,((E2 j).2.2.2.2 hj).1,V1,E1 j hj,this]
 have c2:∀j,(s2.e j).c=(s.e j).c:=λj=>by
  rw[(E2 j).1];by_cases hj:j=i
  ·rw[hj,C1,h.ec i c hc]
  ·rw[E1 j hj]
 have q2:∀j,(s2.e j).q=if j=i then [p] else (s.e j).q:=λj=>by
  rw[(E2 j).2.1];by_cases hj:j=i
  ·rw[hj,Q1,ZP rfl]
  ·rw[E1 j hj,ZI hj]
 have n2:∀j,(s2.e j).sh=(s.e j).sh/\(s2.e j).cp=(s.e j).cp:=λj=>by
  rw[(E2 j).2.2.1,(E2 j).2.2.2.1];by_cases hj:j=i
  ·rw[hj];exact⟨S1,P1⟩
  ·rw[E1 j hj];exact⟨rfl,rfl⟩
 unfold SS.wake;simp only[];rw[C1] at Ja ⊢;rw[Ja];have Jj:=h.ec i c hc;by_cases hs:dz c=true
 ·rw[ZP hs];unfold SS.wakeS;rw[A2];have JX:=P.sh τv;have hK0:s.A.K i=[]:=h.leaf hc hl;have hoi:s.A.on i=false:=by
   cases ho:s.A.on i with
   | false=>rfl
   | true=>obtain⟨d,_,_,_,g⟩:=(h.on i).1 ho;exact ax hq g
  have oni:∀y ∈ xs.tail,aw s.A.on i true y=false:=λy hy=>by
   obtain⟨d',LS,N5⟩:=P.inn y hy;unfold aw;split
   ·rename_i e;rw[e,hc] at LS;cases LS;rw[hl] at N5;cases N5
   ·cases ho:s.A.on y with
    | false=>rfl
    | true=>obtain⟨d,hd,KZ,_⟩:=(h.on y).1 ho;exact ηA
  have YN:mK s.L (aw s.A.on i true) s.A.K i:=λq j hj=>by rw[h.kk q j,show aw s.A.on i true j=s.A.on j from ZI hj]
  have ni:∀q,i ∉ s.A.K q:=λq hm=>ηV
  obtain⟨o1,o2,o3⟩:=oL h.lok.nz JX P.ne P.nd oni YN ni (.inl (ZP rfl));obtain⟨s3,KG⟩:=Nq ({s2 with A:=⟨aw s.A.on i true,(aX s.A.K xs).2⟩}:SS);have a3:s3.L=s.L/\s3.e=s2.e/\s3.A=⟨aw s.A.on i true,(aX s.A.K xs).2⟩/\s3.lv=s2.lv/\s3.kd=s.kd:=by rw[<- KG];exact⟨L2,rfl,rfl,rfl,K2⟩
  obtain⟨Xz,Pg,QH,a34,Qf⟩:=a3;rw[KG];obtain⟨z1,z2,z3,z4,z5,_⟩:=gm now (aX s.A.K xs).1 s3;obtain⟨u,hu⟩:=Nq ((aX s.A.K xs).1.foldl (SS.wake1 now) s3);rw[hu] at z1 z2 z3 z4 z5 ⊢;refine h.rebuild P (z1.trans Xz) (λj d hd=>by rw[(z5 j).1,Pg,c2];exact h.ec j d hd) (λj=>?_) (by rw[z2,QH];exact o1) (λj=>?_) (λj hj0 hj=>?_) (λq j hj=>by rw[z4,Qf]) (λj hj q=>.inr (by rw[z4,Qf])) (λj hj hi q=>?_)
  ·rw[z2,QH,(z5 j).2.1,Pg,q2];show aw s.A.on i true j=true↔_;by_cases hj:j=i
   ·subst hj;rw[show aw s.A.on j true j=true from ZP rfl,ZP rfl];exact⟨λ_=>⟨c,hc,hl,hs,by simp⟩,λ_=>rfl⟩
   ·rw[show aw s.A.on i true j=s.A.on j from ZI hj,ZI hj];exact h.on j
  ·have:=SM j;unfold SS.okl at this ⊢;rw[z1,Xz,z3,a34,(z5 j).2.1,(z5 j).2.2.1,Pg,this,L2]
  ·have K6:j≠i:=λe=>hj (e ▸ P.hd);have hjy:j ∉ (aX s.A.K xs).1:=λg=>hj (im j g);refine⟨by rw[z2,QH];exact ZI K6,by rw[z2,QH];exact oK hj0 (λe=>hj (List.mem_of_mem_tail e)),by rw[(z5 j).2.2.2.2 hjy,Pg,(n2 j).2],λq _=>by rw[(z5 j).2.2.2.2 hjy,Pg,(n2 j).1],by rw[z4,Qf]⟩
  ·have hn:s.A.is j=false:=by
    cases ho:s.A.is j with
    | false=>rfl
    | true=>
     rw[z2,QH] at hi;have hii:¬(aw s.A.on i true j=true\/(aX s.A.K xs).2 j≠[]):=λg=>by have:=(dX (A:=⟨aw s.A.on i true,(aX s.A.K xs).2⟩) (j:=j)).2 g;rw[hi] at this;cases this
     rcases dX.1 ho with g|g
     ·exact ax (.inl (by unfold aw;split;rfl;exact g)) hii
     ·obtain⟨k,hk⟩:=List.exists_mem_of_ne_nil _ g;exact ax (.inr (λe=>by have:=o3 j k hk;rw[e] at this;cases this)) hii
   rw[z4,Qf,h.kd j q,ZI];intro hm;obtain⟨d,hd,_,_,g⟩:=(h.kk q j).1 hm;rw[dX.2 g] at hn;cases hn
 ·rw[ZI hs];refine⟨by rw[L2];exact h.lok,λj d hd=>by rw[c2];exact h.ec j d (L2 ▸ hd),λj=>?_,by rw[L2,A2];exact h.kk,λj q=>?_,SM⟩
  ·rw[A2,L2,q2,h.on j];by_cases hj:j=i
   ·subst hj;rw[ZP rfl];constructor
    ·rintro⟨d,hd,g1,g2,g3⟩;exact ax hq g3
    ·rintro⟨d,hd,g1,g2,g3⟩;rw[hc] at hd;cases hd;exact ax g2 hs
   ·rw[ZI hj]
  ·rw[K2,A2,h.kd j q,(n2 j).1,SS.fit_same (t:=s2) (s:=s) (by rw[c2]) (by rw[A2]) (by rw[(n2 j).2]) (by rw[K2])]
theorem SS.Inv.clk (h:s.Inv)(now:Int):({s with clk:=now}:SS).Inv:=h.same rfl rfl rfl rfl (λj=>⟨rfl,Iff.rfl,rfl,rfl,rfl,rfl⟩)
theorem SS.Inv.push {p:PK} {a:Int} (h:s.Inv)(hq:(s.e i).q≠[]):({s.setE i {s.e i with q:=(s.e i).q++[p]} with acc:=a}:SS).Inv:=by
 refine h.same rfl rfl rfl rfl (λj=>?_);unfold SS.setE aw;simp only[];by_cases hj:j=i
 ·subst hj;simp[hq]
 ·simp[hj]
theorem SS.Inv.put {now n:Int} {p:PK} {s':SS} (h:s.Inv)(P:∀c,fc s.L i=some c->iU s.L i xs)(e:s.put now i p xs=(n,s')):s'.Inv:=by
 unfold SS.put at e;split at e
 ·cases e;exact h
 ·cases hc:fc s.L i with
  | none=>simp only[hc] at e;cases e;exact h.clk now
  | some c=>
   simp only[hc] at e;have h0:=h.clk now;by_cases g1:c.lf=false
   ·rw[ZP g1] at e;cases e;exact h0
   rw[ZI g1] at e;split at e
   ·cases e;exact h0
   split at e
   ·cases e;exact h0
   split at e
   ·cases e;exact h0
   split at e
   ·rename_i hq;cases e
    refine h0.wake (p:=p) hc (by simpa using g1) hq (P c hc) ⟨rfl,rfl,rfl,rfl,λj hj=>ZI hj,?_,?_,?_,?_⟩<;>simp[SS.setE,aw,hq,h.ec i c hc]
   ·rename_i hq;cases e
    exact h0.push hq
theorem SS.Inv.chosen {x:Bool} {now:Int} (h:s.Inv)(Jq:SS.Choose s now (some (i,x))):∃c xs p r,fc s.L i=some c/\c.lf=true/\(s.e i).q=p::r/\iU s.L i xs/\(dz c=true->bM s.L i xs/\xs≠[]/\s.A.is i=true/\∀y ∈ 0::xs.tail,s.A.K y≠[]):=by
 have Ra:∃c,fc s.L i=some c/\c.lf=true/\(s.e i).q≠[]:=by
  rcases Jq with ⟨k,hk,e⟩|⟨_,⟨k,hk,e⟩|⟨_,e⟩⟩
  ·cases e
   obtain⟨y,hy,_⟩:=hk;have:=h.lv i;unfold SS.okl at this;cases hc:fc s.L i with
   | none=>rw[hc] at this;rw[this] at hy;cases hy
   | some c=>
    rw[hc] at this;by_cases g:c.lf=true/\SS.real c=true/\(s.e i).q≠[]
    ·exact⟨c,rfl,g.1,g.2.2⟩
    ·simp only[ZI g] at this;rw[this] at hy;cases hy
  ·cases e
   have:∀j r,SS.Chain s now j r->∀i,r=some i->∃c,fc s.L i=some c/\c.lf=true/\(s.e i).q≠[]:=by
    intro j r JG
    induction JG with
    | none _=>intro i e;cases e
    | @leaf j k hp hl=>
     intro i e;cases e
     obtain⟨y,hy,_⟩:=hp;rw[h.kd k j] at hy;by_cases hm:k ∈ s.A.K j
     ·obtain⟨d,hd,_,_,g⟩:=(h.kk j k).1 hm;rw[h.ec k d hd] at hl;rw[h.leaf hd hl] at g;obtain⟨d',LS,_,_,gq⟩:=(h.on k).1 (g.resolve_right (λe=>e rfl));exact⟨d,hd,hl,gq⟩
     ·rw[ZI hm] at hy;cases hy
    | inner _ _ _ ih=>exact ih
   exact this 0 _ hk i rfl
  ·cases e
 obtain⟨c,hc,hl,hq⟩:=Ra;obtain⟨xs,P⟩:=h.lok.path hc;obtain⟨p,r,hpr⟩:∃p r,(s.e i).q=p::r:=by
  cases e:(s.e i).q with
  | nil=>exact ax e hq
  | cons p r=>exact⟨p,r,rfl⟩
 refine⟨c,xs,p,r,hc,hl,hpr,P,λhs=>?_⟩;have JX:=P.sh τv;have Le:s.A.on i=true:=(h.on i).2 ⟨c,hc,hl,hs,hq⟩;obtain⟨g1,g2⟩:=ge (x:=0) JX (λq j _=>h.kk q j) (ZD.1 P.nd).1 (λ_=>.inl Le);refine⟨JX,P.ne,dX.2 (.inl Le),λy hy=>?_⟩;rcases ZC.1 hy with e|e
 ·rw[e];exact g2 P.ne
 ·exact g1 y e
end
theorem tO {m:TM} {x:Int} (hx:x<Mc)(h:∀j q,m j=some q->x<q.2):x<fitT m:=by unfold fitT;exact ηj
theorem pW {m:TM} {x:Int} (hx:x<Mc)(h:∀j q,m j=some q->x<q.1):x<dU m:=by unfold dU;exact ηj
section
variable {s:SS} {now:Int}
theorem SS.Inv.idle (h:s.Inv)(hn:now<=4611686018427387904)(Jq:SS.Choose s now none):now<min (dU s.lv) (fitT (s.kd 0)):=by
 have hm:min now Mb=now:=ρa;have chain:∀p r,SS.Chain s now p r->r=none->now<fitT (s.kd p):=by
  intro p r JG
  induction JG with
  | @none p hp=>intro _;exact tO ρa (λj q hq=>by have:=hp.2 j q hq;omega)
  | leaf _ _=>intro e;cases e
  | @inner p j r hp hl _ ih=>
   intro e;exfalso;have g:=ih e;obtain⟨y,hy,hy2,_⟩:=hp;rw[h.kd j p] at hy;by_cases Nc:j ∈ s.A.K p
   ·rw[ZP Nc] at hy;cases hy
    obtain⟨d,hd,_,_,ga⟩:=(h.kk p j).1 Nc;have e2:s.fit j=max (s.e j).cp.t (fitT (s.kd j)):=by
     unfold SS.fit;rw[ZI];rintro(w|w)
     ·rw[hl] at w;cases w
     ·rw[dX.2 ga] at w;cases w
    simp only[e2] at hy2;omega
   ·rw[ZI Nc] at hy;cases hy
 rcases Jq with ⟨_,_,e⟩|⟨he,⟨_,_,e⟩|⟨JG,_⟩⟩
 ·cases e
 ·cases e
 ·have h1:=chain 0 _ JG rfl;have h2:now<dU s.lv:=pW ρa (λj q hq=>by have:=he.2 j q hq;omega);omega
theorem SS.Inv.lvn (h:s.Inv) {j:Int} {q:Int × Int} (hj:s.lv j=some q):∃c,fc s.L j=some c/\c.lf=true/\SS.real c=true/\(s.e j).q≠[]/\q=((s.e j).du.e,(s.e j).du.t):=by
 have:=h.lv j;unfold SS.okl at this;cases hc:fc s.L j with
 | none=>rw[hc] at this;rw[this] at hj;cases hj
 | some c=>
  rw[hc] at this;by_cases g:c.lf=true/\SS.real c=true/\(s.e j).q≠[]
  ·simp only[ZP g] at this;rw[this] at hj;cases hj;exact⟨c,rfl,g.1,g.2.1,g.2.2,rfl⟩
  ·simp only[ZI g] at this;rw[this] at hj;cases hj
end
theorem lU {n:Int}:∀{xs:List Int} {s:SS} {j:Int},xs.Nodup->j ∈ xs->(xs.foldl (SS.take1 n) s).e j={s.e j with tot:=(s.e j).tot+n,sh:=(s.e j).sh.took ((s.e j).tot+n),cp:=(s.e j).cp.fit ((s.e j).tot+n)}
 | [],_,_,_,h=>by simp at h
 | x::r,s,j,hn,h=>by
  rw[ZD] at hn;show (r.foldl (SS.take1 n) (s.take1 n x)).e j=_;by_cases hj:j=x
  ·subst hj;rw[gh hn.1];exact ZP rfl
  ·have hr:j ∈ r:=(ZC.1 h).resolve_left hj;rw[lU hn.2 hr,qN hj]
theorem lV (n:Int):∀(xs:List Int)(s:SS),(xs.foldl (SS.take1 n) s).T=s.T/\(xs.foldl (SS.take1 n) s).Lm=s.Lm/\(xs.foldl (SS.take1 n) s).clk=s.clk/\(xs.foldl (SS.take1 n) s).acc=s.acc
 | [],s=>⟨rfl,rfl,rfl,rfl⟩
 | x::r,s=>lV n r (s.take1 n x)
section
variable {s t:SS} {i:Int} {xs:List Int} {c:CD}
structure kT (s t:SS) (now i:Int) (b:Bool) (xs:List Int) (p:PK) (r:List PK):Prop where
 L:t.L=s.L
 T:t.T=s.T
 Lm:t.Lm=s.Lm
 clk:t.clk=now
 acc:t.acc=s.acc
 cc:∀j,(t.e j).c=(s.e j).c
 q:∀j,(t.e j).q=if j=i then r else (s.e j).q
 tot:∀j,(t.e j).tot=if j ∈ xs then (s.e j).tot+p.len else (s.e j).tot
 du:∀j,(t.e j).du=if j=i/\SS.real (s.e i).c=true then (if b then (s.e i).du.took p.len (aZ r) else (s.e i).du.headed (aZ r)) else (s.e j).du
 cp:∀j,(t.e j).cp=if j ∈ xs then (s.e j).cp.fit ((s.e j).tot+p.len) else (s.e j).cp
 sh:∀j,(t.e j).sh=CH.zero\/(t.e j).sh=if j ∈ xs then (s.e j).sh.took ((s.e j).tot+p.len) else (s.e j).sh
theorem vG (s:SS)(y j:Int):((s.sleep1 y).e j).sh=CH.zero\/((s.sleep1 y).e j).sh=(s.e j).sh:=by
 unfold SS.sleep1;dsimp only;split
 ·dsimp only;split
  ·exact .inl rfl
  ·exact .inr rfl
 ·exact .inr rfl
theorem jR:∀(ys:List Int)(s:SS)(j:Int),((ys.foldl SS.sleep1 s).e j).sh=CH.zero\/((ys.foldl SS.sleep1 s).e j).sh=(s.e j).sh
 | [],s,j=>.inr rfl
 | y::r,s,j=>by
  rcases jR r (s.sleep1 y) j with h|h
  ·exact .inl h
  ·rcases vG s y j with g|g
   ·exact .inl (h.trans g)
   ·exact .inr (h.trans g)
theorem td (now:Int)(b:Bool) {p:PK} {r:List PK} (hq:(s.e i).q=p::r)(hi:i ∈ xs)(hn:xs.Nodup):kT s (s.take now i b xs) now i b xs p r:=by
 rw[kQ hq];obtain⟨s0,Ka⟩:=Nq (({s with clk:=now}:SS).setE i {s.e i with q:=r});have f0:s0.L=s.L/\s0.T=s.T/\s0.Lm=s.Lm/\s0.clk=now/\s0.acc=s.acc/\∀j,(s0.e j).c=(s.e j).c/\(s0.e j).q=(if j=i then r else (s.e j).q)/\(s0.e j).du=(s.e j).du/\(s0.e j).tot=(s.e j).tot/\(s0.e j).sh=(s.e j).sh/\(s0.e j).cp=(s.e j).cp:=by rw[<- Ka];refine⟨rfl,rfl,rfl,rfl,rfl,λj=>?_⟩;unfold SS.setE aw;exact ξE
 rw[Ka];obtain⟨a1,a2,a3,a4,a5,a6⟩:=f0;obtain⟨s1,Ju⟩:=Nq (xs.foldl (SS.take1 p.len) s0);have f1:=fu p.len xs s0;have m1:=lV p.len xs s0;have g1:∀j,(s1.e j).tot=(if j ∈ xs then (s.e j).tot+p.len else (s.e j).tot)/\(s1.e j).cp=(if j ∈ xs then (s.e j).cp.fit ((s.e j).tot+p.len) else (s.e j).cp)/\(s1.e j).sh=(if j ∈ xs then (s.e j).sh.took ((s.e j).tot+p.len) else (s.e j).sh):=λj=>by
  obtain⟨_,_,_,b4,b5,b6⟩:=a6 j;rw[<- Ju];by_cases hj:j ∈ xs
  ·rw[lU hn hj];simp only[ZP hj,b4,b5,b6];exact⟨trivial,trivial,trivial⟩
  ·rw[gh hj];simp only[ZI hj,b4,b5,b6];exact⟨trivial,trivial,trivial⟩
 rw[Ju] at f1 m1 ⊢;obtain⟨h1,_,_,_,h5⟩:=f1;obtain⟨d1,_,_,d4,d5,d6,d7,d8⟩:=jj (s:=s1) (i:=i) p.len b;have dd:((s1.due i p.len b).e i).du=if SS.real (s1.e i).c=true then (if b then (s1.e i).du.took p.len (aZ (s1.e i).q) else (s1.e i).du.headed (aZ (s1.e i).q)) else (s1.e i).du:=by
  unfold SS.due;split
  ·dsimp only;split<;>simp[SS.duesTo,SS.setE,aw]
  ·rfl
 obtain⟨s2,Ja⟩:=Nq (s1.due i p.len b);rw[Ja] at d1 d4 d5 d6 d7 d8 dd ⊢;have q2:∀j,(s2.e j).q=if j=i then r else (s.e j).q:=λj=>by rw[(d4 j).2.1,(h5 j).2.1,(a6 j).2.1]
 have hdu:∀j,(s2.e j).du=if j=i/\SS.real (s.e i).c=true then (if b then (s.e i).du.took p.len (aZ r) else (s.e i).du.headed (aZ r)) else (s.e j).du:=λj=>by
  by_cases hj:j=i
  ·subst hj;rw[dd,(h5 j).1,(a6 j).1,(h5 j).2.1,(a6 j).2.1,ZP rfl,(h5 j).2.2,(a6 j).2.2.1];simp only[true_and]
  ·rw[ZI (λg=>hj g.1),((d4 j).2.2.2.2.2 hj).1,(h5 j).2.2,(a6 j).2.2.1]
 have two:kT s s2 now i b xs p r:=⟨d1.trans (h1.trans a1),d7.trans (m1.1.trans a2),d8.trans (m1.2.1.trans a3),d5.trans (m1.2.2.1.trans a4),d6.trans (m1.2.2.2.trans a5),λj=>by rw[(d4 j).1,(h5 j).1,(a6 j).1],q2,λj=>by rw[(d4 j).2.2.2.2.1,(g1 j).1],hdu,λj=>by rw[(d4 j).2.2.2.1,(g1 j).2.1],λj=>.inr (by rw[(d4 j).2.2.1,(g1 j).2.2])⟩;obtain⟨s3,KG⟩:=Nq (if (s2.e i).q=[] then s2.sleep i xs else s2);have KU:kT s s3 now i b xs p r:=by
  rw[<- KG];split
  ·unfold SS.sleep;split
   ·obtain⟨z1,_,_,z4,_,_,z7,z8,z9,z10⟩:=fI (aH s2.A.K xs).1 {s2 with A:=⟨aw s2.A.on i false,(aH s2.A.K xs).2⟩};refine⟨z1.trans two.L,z9.trans two.T,z10.trans two.Lm,z7.trans two.clk,z8.trans two.acc,λj=>(z4 j).1.trans (two.cc j),λj=>(z4 j).2.1.trans (two.q j),λj=>(z4 j).2.2.2.2.trans (two.tot j),λj=>(z4 j).2.2.2.1.trans (two.du j),λj=>(z4 j).2.2.1.trans (two.cp j),λj=>?_⟩;rcases jR (aH s2.A.K xs).1 {s2 with A:=⟨aw s2.A.on i false,(aH s2.A.K xs).2⟩} j with g|g
    ·exact .inl g
    ·rcases two.sh j with w|w
     ·exact .inl (g.trans w)
     ·exact .inr (g.trans w)
   ·exact two
  ·exact two
 rw[KG];obtain⟨y1,y2,_,_,y5,y6,y7,y8⟩:=cI s3 xs;exact⟨y1.trans KU.L,y7.trans KU.T,y8.trans KU.Lm,y5.trans KU.clk,y6.trans KU.acc,λj=>by rw[y2];exact KU.cc j,λj=>by rw[y2];exact KU.q j,λj=>by rw[y2];exact KU.tot j,λj=>by rw[y2];exact KU.du j,λj=>by rw[y2];exact KU.cp j,λj=>by rw[y2];exact KU.sh j⟩
structure gN (s t:SS) (now i:Int) (xs:List Int) (p:PK) (c:CD):Prop where
 L:t.L=s.L
 T:t.T=s.T
 Lm:t.Lm=s.Lm
 clk:t.clk=now
 acc:t.acc=s.acc+p.len
 cc:∀j,(t.e j).c=(s.e j).c
 q:∀j,(t.e j).q=if j=i then (s.e i).q++[p] else (s.e j).q
 tot:∀j,(t.e j).tot=(s.e j).tot
 du:∀j,(t.e j).du=if j=i/\(s.e i).q=[]/\SS.real c=true then ((s.e i).du.woke c.r0 c.r1 c.r2 now).headed p.len else (s.e j).du
 sh:∀j,(t.e j).sh=(s.e j).sh\/j ∈ xs/\(t.e j).sh=(s.e j).sh.wake (s.e j).c.l0 (s.e j).c.l1 (s.e j).c.l2 (ct (s.kd (s.e j).c.par)) (s.e j).tot
 cls:fc s.L i=some c/\c.lf=true
 len:1<=p.len/\p.len<=s.Lm
 told:s.clk<=now/\now<=4611686018427387904
 more:s.acc+p.len<=1099511627776
theorem rm (now:Int):∀(ys:List Int)(s:SS)(j:Int),((ys.foldl (SS.wake1 now) s).e j).sh=(s.e j).sh\/j ∈ ys/\(ys.Nodup->((ys.foldl (SS.wake1 now) s).e j).sh=(s.e j).sh.wake (s.e j).c.l0 (s.e j).c.l1 (s.e j).c.l2 (ct (s.kd (s.e j).c.par)) (s.e j).tot)
 | [],s,j=>.inl rfl
 | y::r,s,j=>by
  have g:(s.wake1 now y).kd=s.kd/\((s.wake1 now y).e j).c=(s.e j).c/\((s.wake1 now y).e j).tot=(s.e j).tot/\(j≠y->(s.wake1 now y).e j=s.e j)/\(j=y->((s.wake1 now y).e j).sh=(s.e j).sh.wake (s.e j).c.l0 (s.e j).c.l1 (s.e j).c.l2 (ct (s.kd (s.e j).c.par)) (s.e j).tot):=ηr
  obtain⟨g1,g2,g3,g4,g5⟩:=g;simp only[List.foldl_cons];by_cases hj:j=y
  ·right;refine⟨by simp[hj],λhn=>?_⟩;rw[ZD] at hn;exact ηX
  ·rcases rm now r (s.wake1 now y) j with h|⟨h1,h2⟩
   ·exact .inl (by rw[h,g4 hj])
   ·right;refine⟨rt _ h1,λhn=>?_⟩;rw[h2 (ZD.1 hn).2,g1,g4 hj]
theorem i7:∀{xs:List Int} {K:Int->List Int},xs.Nodup->(aX K xs).1.Nodup
 | [],_,h=>h
 | [i],_,h=>h
 | i::p::r,K,h=>by
  rw[ZD] at h;unfold aX;split
  ·exact ZD.2 ⟨λg=>h.1 (im i g),i7 h.2⟩
  ·simp
theorem cf {now n:Int} {p:PK} {s':SS} (ec:∀i c,fc s.L i=some c->(s.e i).c=c)(hn:xs.Nodup)(e:s.put now i p xs=(n,s')):(n≠0/\(s'=s\/s'={s with clk:=now}/\s.clk<=now/\now<=4611686018427387904))\/(n=0/\∃c,gN s s' now i xs p c):=by
 unfold SS.put at e;split at e
 ·cases e;exact .inl ⟨by simp,.inl rfl⟩
 ·rename_i htl;have tl:s.clk<=now/\now<=4611686018427387904:=by simpa [SS.told] using htl
  have no:∀k:Int,k≠0->(k,({s with clk:=now}:SS))=(n,s')->(n≠0/\(s'=s\/s'={s with clk:=now}/\s.clk<=now/\now<=4611686018427387904))\/(n=0/\∃c,gN s s' now i xs p c):=λk hk e=>by cases e;exact .inl ⟨hk,.inr ⟨rfl,tl⟩⟩
  cases hc:fc s.L i with
  | none=>simp only[hc] at e;exact no 23 ρa e
  | some c=>
   simp only[hc] at e;by_cases g1:c.lf=false
   ·rw[ZP g1] at e;exact no 29 ρa e
   rw[ZI g1] at e;split at e
   ·exact no 26 ρa e
   rename_i g2;split at e
   ·exact no 28 ρa e
   rename_i g3;split at e
   ·exact no 30 ρa e
   right;have Jj:=ec i c hc;have ln:1<=p.len/\p.len<=s.Lm:=by simp only[not_or,Int.not_lt] at g2;exact g2
   split at e
   ·rename_i hq;have hq:(s.e i).q=[]:=hq;obtain⟨rfl,rfl⟩:=Prod.mk.inj e;refine⟨rfl,c,?_⟩;obtain⟨s1,Ju⟩:=Nq ({({s with clk:=now}:SS).setE i {s.e i with q:=(s.e i).q++[p]} with acc:=s.acc+p.len}:SS);have f1:s1.L=s.L/\s1.T=s.T/\s1.Lm=s.Lm/\s1.clk=now/\s1.acc=s.acc+p.len/\s1.kd=s.kd/\∀j,(s1.e j).c=(s.e j).c/\(s1.e j).q=(if j=i then (s.e i).q++[p] else (s.e j).q)/\(s1.e j).du=(s.e j).du/\(s1.e j).tot=(s.e j).tot/\(s1.e j).sh=(s.e j).sh:=by
     rw[<- Ju];refine⟨rfl,rfl,rfl,rfl,rfl,rfl,λj=>?_⟩;unfold SS.setE aw;exact ξE
    suffices key:gN s (s1.wake now i p.len xs) now i xs p c by rw[<- Ju] at key;exact key
    clear Ju;obtain⟨a1,a2,a3,a4,a5,a6,a7⟩:=f1;unfold SS.wake;simp only[];rw[show (s1.e i).c=c from(a7 i).1.trans Jj];obtain⟨s2,Ja⟩:=Nq (if SS.real c then s1.duesTo i (((s1.e i).du.woke c.r0 c.r1 c.r2 now).headed p.len) else s1);have two:s2.L=s1.L/\s2.T=s1.T/\s2.Lm=s1.Lm/\s2.clk=s1.clk/\s2.acc=s1.acc/\s2.kd=s1.kd/\∀j,(s2.e j).c=(s1.e j).c/\(s2.e j).q=(s1.e j).q/\(s2.e j).tot=(s1.e j).tot/\(s2.e j).sh=(s1.e j).sh/\(s2.e j).du=if j=i/\SS.real c=true then ((s1.e i).du.woke c.r0 c.r1 c.r2 now).headed p.len else (s1.e j).du:=by
     rw[<- Ja];split
     ·rename_i hr;refine⟨rfl,rfl,rfl,rfl,rfl,rfl,λj=>?_⟩;unfold SS.duesTo SS.setE aw;simp only[];by_cases hj:j=i
      ·subst hj;simp[hr]
      ·simp[hj]
     ·rename_i hr;refine⟨rfl,rfl,rfl,rfl,rfl,rfl,λj=>⟨rfl,rfl,rfl,rfl,?_⟩⟩;rw[ZI (λg=>hr g.2)]
    rw[Ja];obtain⟨b1,b2,b3,b4,b5,b6,b7⟩:=two;have base:gN s s2 now i xs p c:=⟨b1.trans a1,b2.trans a2,b3.trans a3,b4.trans a4,b5.trans a5,λj=>(b7 j).1.trans (a7 j).1,λj=>(b7 j).2.1.trans (a7 j).2.1,λj=>(b7 j).2.2.1.trans (a7 j).2.2.2.1,λj=>by rw[(b7 j).2.2.2.2,(a7 i).2.2.1,(a7 j).2.2.1];simp[hq],λj=>.inl ((b7 j).2.2.2.1.trans (a7 j).2.2.2.2),⟨hc,by simpa using g1⟩,ln,tl,by have g3:¬1099511627776<s.acc+p.len:=g3;omega⟩;split
    ·unfold SS.wakeS;obtain⟨z1,_,_,_,z5,z6,z7,z8,z9⟩:=gm now (aX s2.A.K xs).1 {s2 with A:=⟨aw s2.A.on i true,(aX s2.A.K xs).2⟩};obtain⟨y1,y2,_,_,y5,y6,y7,y8⟩:=cI ((aX s2.A.K xs).1.foldl (SS.wake1 now) {s2 with A:=⟨aw s2.A.on i true,(aX s2.A.K xs).2⟩}) xs;refine⟨y1.trans (z1.trans base.L),y7.trans (z8.trans base.T),y8.trans (z9.trans base.Lm),y5.trans (z6.trans base.clk),y6.trans (z7.trans base.acc),λj=>by rw[y2];exact(z5 j).1.trans (base.cc j),λj=>by rw[y2];exact(z5 j).2.1.trans (base.q j),λj=>by rw[y2];exact(z5 j).2.2.2.1.trans (base.tot j),λj=>by rw[y2];exact(z5 j).2.2.1.trans (base.du j),λj=>?_,base.cls,base.len,base.told,base.more⟩;rw[y2];rcases rm now (aX s2.A.K xs).1 {s2 with A:=⟨aw s2.A.on i true,(aX s2.A.K xs).2⟩} j with g|⟨g1,g2⟩
     ·exact .inl (g.trans ((b7 j).2.2.2.1.trans (a7 j).2.2.2.2))
     ·right;refine⟨im j g1,(g2 (i7 hn)).trans ?_⟩;show (s2.e j).sh.wake (s2.e j).c.l0 (s2.e j).c.l1 (s2.e j).c.l2 (ct (s2.kd (s2.e j).c.par)) (s2.e j).tot=_;rw[(b7 j).1,(b7 j).2.2.1,(b7 j).2.2.2.1,b6,a6,(a7 j).1,(a7 j).2.2.2.1,(a7 j).2.2.2.2]
    ·exact base
   ·rename_i hq;have hq:¬(s.e i).q=[]:=hq;obtain⟨rfl,rfl⟩:=Prod.mk.inj e;refine⟨rfl,c,rfl,rfl,rfl,rfl,rfl,λj=>?_,λj=>?_,λj=>?_,λj=>?_,λj=>.inl ?_,⟨hc,by simpa using g1⟩,ln,tl,by have g3:¬1099511627776<s.acc+p.len:=g3;omega⟩<;>
    ·unfold SS.setE aw;simp only[];by_cases hj:j=i
     ·subst hj;simp[hq]
     ·simp[hj]
end
def CH.low (c:CH):Prop:=c.r.ok/\c.r.f.X<=Mc/\c.r.t.X<=Mc/\0<=c.t/\c.t<=Mc
theorem CH.low_zero:CH.zero.low:=by unfold CH.low CH.zero RN.ok LN.ok ai;simp
theorem jv {r:RN} (h:r.ok)(h1:r.f.X<=Mc)(h2:r.t.X<=Mc)(p:Int):0<=r.time p/\r.time p<=Mc:=by have h3:=RN.reach_rng h (p*65536);have h4:=h.1.1;have h5:=h.2.1;unfold RN.time;split<;>omega
theorem BD {a b:LN} {N:Int} (ha:a.X<=N)(hb:b.X<=N):(LN.low a b).X<=N:=by unfold LN.low;split<;>assumption
theorem AU {m d n x y N:Int} (h4:kd m d n≠4)(hx:x<=N)(h0:0<=N):(RN.start m d n x y).f.X<=N/\(RN.start m d n x y).t.X<=N:=by
 unfold RN.start;rw[ZI h4];unfold RN.ready;split
 ·exact⟨h0,hx⟩
 ·split
  ·exact⟨hx,hx⟩
  ·exact⟨h0,hx⟩
theorem CH.low_wake {c:CH} {m d n low p:Int} (h:c.low)(hc:iO m d n)(h4:kd m d n≠4)(hl:0<=low/\low<=Mc)(hp:0<=p/\p<=2199023255552):(c.wake m d n low p).low:=by
 obtain⟨h1,h2,h3,_⟩:=h;obtain⟨_,hm,hd,hn⟩:=hc;have s1:(RN.start m d n low (p*65536)).ok:=RN.start_ok ρa hd.1 ρa hl ρx;obtain⟨s2,s3⟩:=AU (m:=m) (d:=d) (n:=n) (x:=low) (y:=p*65536) h4 hl.2 ρa;have key:∀r:RN,r.ok->r.f.X<=Mc->r.t.X<=Mc->CH.low ⟨true,r,r.time p⟩:=λr g1 g2 g3=>⟨g1,g2,g3,(jv g1 g2 g3 p).1,(jv g1 g2 g3 p).2⟩;unfold CH.wake;split
 ·refine key _ (RN.meet_ok h1 s1) ?_ (BD h3 s3);unfold RN.meet;simp only[];split
  ·exact BD h2 s2
  ·exact(by decide:(0:Int)<=Mc)
 ·exact key _ s1 s2 s3
theorem CH.low_took {c:CH} {p:Int} (h:c.low):(c.took p).low:=by
 unfold CH.took;split
 ·exact⟨h.1,h.2.1,h.2.2.1,(jv h.1 h.2.1 h.2.2.1 p).1,(jv h.1 h.2.1 h.2.2.1 p).2⟩
 ·exact h
def SS.ids (s:SS):List Int:=s.L.map CD.id
def SS.bys (s:SS):Int:=ed (λi=>aE (s.e i).q) s.ids
def SS.pks (s:SS):Int:=ed (λi=>((s.e i).q.length:Int)) s.ids
theorem ld (a b:List PK):aE (a++b)=aE a+aE b:=by
 induction a with
 | nil=>simp[aE]
 | cons x r ih=>simp only[List.cons_append,aE,ih];omega
theorem lg {q:List PK} (h:∀p ∈ q,0<=p.len):0<=aE q:=by
 induction q with
 | nil=>simp[aE]
 | cons x r ih=>have h1:=h x ρp;have h2:=ih (λp hp=>h p (by simp[hp]));simp only[aE];omega
theorem eM {f:Int->Int}:∀{R:List Int},(∀i ∈ R,0<=f i)->0<=ed f R
 | [],_=>ZJ _
 | i::r,h=>by have h1:=h i ρp;have h2:=eM (R:=r) (λj hj=>h j (by simp[hj]));simp only[ed];omega
structure SS.Num (s:SS):Prop where
 nd:s.ids.Nodup
 cin:∀c ∈ s.L,iO c.r0 c.r1 c.r2/\iO c.l0 c.l1 c.l2/\Go.Proofs.YtfdlemkplejdnaaGreat.kd c.l0 c.l1 c.l2≠4
 lm:1<=s.Lm/\s.Lm<=16384
 clk:0<=s.clk/\s.clk<=4611686018427387904
 acc:0<=s.acc/\s.acc<=1099511627776
 tot:∀i c,fc s.L i=some c->0<=(s.e i).tot/\(s.e i).tot+s.bys<=s.acc
 pk:∀i c,fc s.L i=some c->∀p ∈ (s.e i).q,1<=p.len/\p.len<=s.Lm
 sh:∀i c,fc s.L i=some c->(s.e i).sh.low
section
variable {s t:SS} {i:Int} {xs:List Int} {c:CD} {p:PK} {r:List PK} {now:Int} {b:Bool}
theorem fg {L:List CD} (h:mC L) {i:Int}:i ∈ L.map CD.id↔∃c,fc L i=some c:=by
 constructor
 ·intro hi;obtain⟨c,hc,rfl⟩:=List.mem_map.1 hi;exact⟨c,h.ids c hc⟩
 ·rintro⟨c,hc⟩;exact List.mem_map.2 ⟨c,(cG hc).1,(cG hc).2⟩
theorem SS.Num.vt (N:s.Num)(h:s.Inv):∀p j q,s.kd p j=some q->0<=q.1/\q.1<=Mc:=by
 intro p j q hq;rw[h.kd j p] at hq;by_cases hm:j ∈ s.A.K p
 ·rw[ZP hm] at hq;cases hq
  obtain⟨d,hd,_⟩:=(h.kk p j).1 hm;exact(N.sh j d hd).2.2.2
 ·rw[ZI hm] at hq;cases hq
theorem SS.Num.bys_nonneg (N:s.Num)(h:s.Inv):0<=s.bys:=by unfold SS.bys;refine eM λj hj=>lg λp hp=>?_;obtain⟨d,hd⟩:=(fg h.lok).1 hj;have:=N.pk j d hd p hp;omega
theorem kT.bys (h:kT s t now i b xs p r)(N:s.Num)(hi:i ∈ s.ids)(hq:(s.e i).q=p::r):s.bys=t.bys+p.len/\s.pks=t.pks+1:=by
 have e:t.ids=s.ids:=by unfold SS.ids;rw[h.L]
 unfold SS.bys SS.pks;rw[e];constructor
 ·refine fq N.nd hi (λj _ hj=>?_) ?_
  ·rw[h.q j,ZI hj]
  ·rw[h.q i,ZP rfl,hq];simp only[aE];omega
 ·refine fq N.nd hi (λj _ hj=>?_) ?_
  ·rw[h.q j,ZI hj]
  ·rw[h.q i,ZP rfl,hq];simp
theorem kT.num (h:kT s t now i b xs p r)(N:s.Num)(I:s.Inv)(hc:fc s.L i=some c)(hq:(s.e i).q=p::r)(hnow:s.clk<=now/\now<=4611686018427387904):t.Num:=by
 have hi:i ∈ s.ids:=(fg I.lok).2 ⟨c,hc⟩;obtain⟨e1,_⟩:=h.bys N hi hq;have hp:=N.pk i c hc p (by rw[hq];simp);have hN:=N.clk;refine⟨by unfold SS.ids;rw[h.L];exact N.nd,by rw[h.L];exact N.cin,by rw[h.Lm];exact N.lm,by rw[h.clk];omega,by rw[h.acc];exact N.acc,λj d hd=>?_,λj d hd q RP=>?_,λj d hd=>?_⟩
 ·rw[h.L] at hd;have:=N.tot j d hd;rw[h.tot,h.acc];split<;>omega
 ·rw[h.L] at hd;rw[h.q] at RP;rw[h.Lm];split at RP
  ·rename_i e;subst e;exact N.pk j d hd q (by rw[hq];simp[RP])
  ·exact N.pk j d hd q RP
 ·rw[h.L] at hd;rcases h.sh j with g|g
  ·rw[g];exact CH.low_zero
  ·rw[g];split
   ·exact CH.low_took (N.sh j d hd)
   ·exact N.sh j d hd
theorem gN.bys (h:gN s t now i xs p c)(N:s.Num)(hi:i ∈ s.ids):t.bys=s.bys+p.len/\t.pks=s.pks+1:=by
 have e:t.ids=s.ids:=by unfold SS.ids;rw[h.L]
 unfold SS.bys SS.pks;rw[e];constructor
 ·refine fq N.nd hi (λj _ hj=>?_) ?_
  ·rw[h.q j,ZI hj]
  ·rw[h.q i,ZP rfl,ld];simp only[aE];omega
 ·refine fq N.nd hi (λj _ hj=>?_) ?_
  ·rw[h.q j,ZI hj]
  ·rw[h.q i,ZP rfl];simp
theorem gN.num (h:gN s t now i xs p c)(N:s.Num)(I:s.Inv)(hx:∀y ∈ xs,∃d,fc s.L y=some d):t.Num:=by
 have hc:=h.cls.1;have hi:i ∈ s.ids:=(fg I.lok).2 ⟨c,hc⟩;obtain⟨e1,_⟩:=h.bys N hi;have hp:=h.len;have hm:=h.more;have ht:=h.told;have hN:=N.clk;have hA:=N.acc;have hb:=N.bys_nonneg I;refine⟨by unfold SS.ids;rw[h.L];exact N.nd,by rw[h.L];exact N.cin,by rw[h.Lm];exact N.lm,by rw[h.clk];omega,by rw[h.acc];omega,λj d hd=>?_,λj d hd q RP=>?_,λj d hd=>?_⟩
 ·rw[h.L] at hd;have:=N.tot j d hd;rw[h.tot,h.acc];omega
 ·rw[h.L] at hd;rw[h.q] at RP;rw[h.Lm];split at RP
  ·rename_i e;subst e;rcases ZM.1 RP with g|g
   ·exact N.pk j d hd q g
   ·simp at g;rw[g];exact hp
  ·exact N.pk j d hd q RP
 ·rw[h.L] at hd;rcases h.sh j with g|⟨hjx,g⟩
  ·rw[g];exact N.sh j d hd
  ·rw[g,I.ec j d hd];have MN:=N.cin d (cG hd).1;have QV:=N.tot j d hd;exact CH.low_wake (N.sh j d hd) MN.2.1 MN.2.2 (pT (λk q hq=>N.vt I _ _ _ hq)) ρa
theorem SS.Num.told (N:s.Num)(h:s.clk<=now/\now<=4611686018427387904):({s with clk:=now}:SS).Num:=⟨N.nd,N.cin,N.lm,by have:=N.clk;show 0<=now/\now<=_;omega,N.acc,N.tot,N.pk,N.sh⟩
end
structure EV where
 (op:Int)
 (inn real:Bool)
 (at_ done cls:Int)
 (pk:PK)
structure YS where
 (s:SS)
 (til clk:Int)
 (ev:List EV)
noncomputable def YS.due (y:YS):Int:=min (dU y.s.lv) (fitT (y.s.kd 0))
noncomputable def YS.next (y:YS):Int:=max y.clk (max y.til y.due)
inductive eX (op:Int) (y:YS):YS->Prop
 | busy:y.clk<y.til->eX op y y
 | idle:y.til<=y.clk->SS.Choose {y.s with clk:=y.clk} y.clk none->eX op y {y with s:={y.s with clk:=y.clk}}
 | pick {i:Int} {x:Bool} {c:CD} {xs:List Int} {p:PK} {r:List PK}:y.til<=y.clk->SS.Choose {y.s with clk:=y.clk} y.clk (some (i,x))->fc y.s.L i=some c->(y.s.e i).q=p::r->bQ y.s.L i xs->eX op y ⟨y.s.take y.clk i x xs,y.clk+y.s.T*p.len,y.clk,y.ev++[⟨op,false,x,y.clk,y.clk+y.s.T*p.len,i,p⟩]⟩
inductive bP (op stop:Int):YS->YS->Prop
 | done {y:YS}:stop<y.next->bP op stop y {y with clk:=stop}
 | next {y z t:YS}:y.next<=stop->eX op {y with clk:=y.next} z->bP op stop z t->bP op stop y t
inductive jX (op:Int) (y:YS):YS->Prop
 | nothing:jX op y y
 | refused {i n:Int} {p:PK} {xs:List Int} {s':SS}:xs.Nodup->y.s.put y.clk i p xs=(n,s')->n≠0->jX op y {y with s:=s'}
 | packet {i:Int} {p:PK} {xs:List Int} {s':SS} {z:YS}:(∀c,fc y.s.L i=some c->iU y.s.L i xs)->y.s.put y.clk i p xs=(0,s')->eX op {y with s:=s',ev:=y.ev++[⟨op,true,false,y.clk,0,i,p⟩]} z->jX op y z
 | adv {stop:Int} {z:YS}:y.clk<=stop->stop<=4611686018427387904->bP op stop y z->jX op y z
structure YS.Ok0 (y:YS):Prop where
 inv:y.s.Inv
 num:y.s.Num
 clk:y.s.clk<=y.clk/\0<=y.clk/\y.clk<=4611686018427387904
 tt:1<=y.s.T/\y.s.T<=65536
 til:0<=y.til/\y.til<=4611686019501129728
structure YS.Ok (y:YS):Prop extends y.Ok0 where
 idle:y.til<=y.clk->y.clk<y.due
theorem vR {L:List CD} (h:mC L) {i:Int} {c:CD} {xs:List Int} (hc:fc L i=some c)(hu:bQ L i xs):iU L i xs:=by obtain⟨ys,P⟩:=h.path hc;rw[iz hu P.up];exact P
theorem Ev {T l:Int} (hT:1<=T/\T<=65536)(hl:1<=l/\l<=16384):1<=T*l/\T*l<=1073741824:=by have h1:1*1<=T*l:=Int.mul_le_mul hT.1 hl.1 ρa ρa;have h2:T*l<=65536*16384:=Int.mul_le_mul hT.2 hl.2 ρa ρa;omega
section
variable {op:Int} {y z:YS}
theorem YS.Ok0.told (h:y.Ok0):({y.s with clk:=y.clk}:SS).Inv/\({y.s with clk:=y.clk}:SS).Num:=⟨h.inv.clk _,h.num.told ⟨h.clk.1,h.clk.2.2⟩⟩
theorem YS.Ok0.pick {i:Int} {x:Bool} {c:CD} {xs:List Int} {p:PK} {r:List PK} (h:y.Ok0)(Jq:SS.Choose {y.s with clk:=y.clk} y.clk (some (i,x)))(hc:fc y.s.L i=some c)(hq:(y.s.e i).q=p::r)(hu:bQ y.s.L i xs):iU y.s.L i xs/\c.lf=true/\kT y.s (y.s.take y.clk i x xs) y.clk i x xs p r/\(y.s.take y.clk i x xs).Inv/\(y.s.take y.clk i x xs).Num/\(1<=p.len/\p.len<=y.s.Lm)/\(1<=y.s.T*p.len/\y.s.T*p.len<=1073741824):=by have P:=vR h.inv.lok hc hu;obtain⟨d,_,_,_,hd,hl,_⟩:=h.told.1.chosen Jq;have hd:fc y.s.L i=some d:=hd;rw[hc] at hd;cases hd;have T:=td y.clk x hq P.hd (ZD.1 P.nd).2;have hp:=h.num.pk i c hc p (by rw[hq];simp);have hL:=h.num.lm;exact⟨P,hl,T,h.inv.take hc hl hq P,T.num h.num h.inv hc hq ⟨h.clk.1,h.clk.2.2⟩,hp,Ev h.tt ⟨hp.1,by omega⟩⟩
theorem eX.ok (hp:eX op y z)(h:y.Ok0):z.Ok/\z.clk=y.clk/\z.s.L=y.s.L/\z.s.T=y.s.T/\z.s.Lm=y.s.Lm:=by
 cases hp with
 | busy hb=>exact⟨⟨h,λg=>by omega⟩,rfl,rfl,rfl,rfl⟩
 | idle hb Jq=>obtain⟨I,N⟩:=h.told;refine⟨⟨⟨I,N,⟨ZJ _,h.clk.2⟩,h.tt,h.til⟩,λ_=>I.idle h.clk.2.2 Jq⟩,rfl,rfl,rfl,rfl⟩
 | pick hb Jq hc hq hu=>obtain⟨P,hl,T,I,N,hp,ht⟩:=h.pick Jq hc hq hu;have h1:=h.clk;refine⟨⟨⟨I,N,⟨by show SS.clk _<=_;rw[T.clk];exact ZJ _,h.clk.2⟩,by show 1<=SS.T _/\SS.T _<=_;rw[T.T];exact h.tt,by simp only[];omega⟩,λg=>by simp only[] at g;omega⟩,rfl,T.L,T.T,T.Lm⟩
theorem YS.Ok.at_next (h:y.Ok) {stop:Int} (hs:stop<=4611686018427387904)(hn:y.next<=stop):({y with clk:=y.next}:YS).Ok0:=by
 have h1:=h.clk;have:y.clk<=y.next:=by unfold YS.next;omega
 exact⟨h.inv,h.num,⟨by simp only[];omega,by simp only[];omega,by simp only[];omega⟩,h.tt,h.til⟩
theorem bP.ok {stop:Int} (hr:bP op stop y z)(h:y.Ok)(hs:stop<=4611686018427387904)(h0:y.clk<=stop):z.Ok/\z.clk=stop/\z.s.L=y.s.L/\z.s.T=y.s.T/\z.s.Lm=y.s.Lm:=by
 induction hr with
 | @done y hn=>have h1:=h.clk;refine⟨⟨⟨h.inv,h.num,⟨by simp only[];omega,by simp only[];omega,hs⟩,h.tt,h.til⟩,λg=>?_⟩,rfl,rfl,rfl,rfl⟩;have g:y.til<=stop:=g;show stop<y.due;unfold YS.next at hn;omega
 | @next y z t hn hp _ ih=>have h1:=h.clk;have ha:=h.at_next hs hn;obtain⟨g1,g2,g3,g4,g5⟩:=hp.ok ha;obtain⟨k1,k2,k3,k4,k5⟩:=ih g1 (by rw[g2];exact hn);exact⟨k1,k2,k3.trans g3,k4.trans g4,k5.trans g5⟩
theorem jX.ok (hs:jX op y z)(h:y.Ok):z.Ok/\y.clk<=z.clk/\z.s.L=y.s.L/\z.s.T=y.s.T/\z.s.Lm=y.s.Lm:=by
 cases hs with
 | nothing=>exact⟨h,ZJ _,rfl,rfl,rfl⟩
 | refused hn e IX=>
  rcases cf h.inv.ec hn e with ⟨_,rfl|⟨rfl,_⟩⟩|⟨g,_⟩
  ·exact⟨h,ZJ _,rfl,rfl,rfl⟩
  ·obtain⟨I,N⟩:=h.told;exact⟨⟨⟨I,N,⟨ZJ _,h.clk.2⟩,h.tt,h.til⟩,h.idle⟩,ZJ _,rfl,rfl,rfl⟩
  ·exact ax g IX
 | @packet i p xs s' z hP e hp=>
  have I:=h.inv.put hP e;have hn:xs.Nodup\/fc y.s.L i=none:=by
   cases hc:fc y.s.L i with
   | none=>exact .inr rfl
   | some c=>exact ηM
  rcases hn with hn|hn
  ·rcases cf h.inv.ec hn e with ⟨g,_⟩|⟨_,c,F⟩
   ·exact ax rfl g
   ·have P:=hP c F.cls.1;refine δn ?_;intro N O;obtain⟨g1,g2,g3,g4,g5⟩:=hp.ok O;exact⟨g1,by rw[g2];exact ZJ _,g3.trans F.L,g4.trans F.T,g5.trans F.Lm⟩
  ·exact ηc
 | adv h0 h1 hr=>obtain⟨g1,g2,g3⟩:=hr.ok h h1 h0;exact⟨g1,by rw[g2];exact h0,g3⟩
end
section
variable {T Lm now now' x x':Int} {R:List Int} {c:Int->Int × Int × Int} {l l':Int->LF} {q q':Int->List PK} {ev:List EV} {e:EV} {k:Int} {p:PK} {r:List PK}
end
end Go.Proofs.YtfdlemkplejdnaaGreat
