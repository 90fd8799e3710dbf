/- WholeLatest, part 25. Conditions: none. -/
import Derived.Test.YtfdlemkplejdnaaGreatA22
namespace Go.Proofs.YtfdlemkplejdnaaGreat
open Go.RowKit Go.Sort
open Value renaming int->ι,pointer->ψ,slice->ζ,tuple->χ,agg->φ,map->μ,bool->β
open IntKind renaming u64->υ,i64->ε,u16->ω
open Ending renaming returned->ϰ
open Go.Proofs.Tryz renaming prog->Ψ,underlying3->Θ,underlying147->Δ,underlying152->Γ,underlying202->Φ,underlying39->Ξ,underlying207->Ω
open Go renaming World->ϖ,Value->ϗ
set_option linter.unusedVariables false
set_option linter.unusedSimpArgs false
set_option maxHeartbeats 8000000
set_option maxRecDepth 100000
theorem gw {x i:Int} {l:List Int}:x ∈ dM i l↔x=i\/x ∈ l:=by
 unfold dM;split
 ·rename_i h;exact⟨.inr,λg=>g.elim (λe=>e ▸ h) id⟩
 ·simp only[qM,qS];exact Or.comm
theorem gt {x i:Int} {l:List Int}:x ∈ dE i l↔x ∈ l/\x≠i:=by unfold dE;rw[qE];simp
theorem vz (i:Int)(l:List Int):dM i l≠[]:=λh=>by have:i ∈ dM i l:=gw.2 (.inl rfl);rw[h] at this;cases this
def pW (L:List CD)(on:Int->Bool)(K:Int->List Int)(x:Int):Prop:=∀p j,j≠x->(j ∈ K p↔∃c,fc L j=some c/\c.par=p/\eZ c=true/\(on j=true\/K j≠[]))
def oQ (L:List CD)(on:Int->Bool)(K:Int->List Int):Prop:=∀p j,(j ∈ K p↔∃c,fc L j=some c/\c.par=p/\eZ c=true/\(on j=true\/K j≠[]))
section
variable {L:List CD} {on:Int->Bool} {K:Int->List Int} {i p:Int} {c:CD}
theorem pW.add (hc:fc L i=some c)(hs:eZ c=true)(hp:c.par=p)(Y':p≠i)(H:pW L on K i)(h0:∀q,i ∉ K q)(ha:on i=true\/K i≠[]):pW L on (ay K p (dM i (K p))) p:=by
 intro q j hj;have e1:ay K p (dM i (K p)) j=K j:=qI hj;rw[e1];by_cases hq:q=p
 ·subst hq;rw[show ay K q (dM i (K q)) q=dM i (K q) from qP rfl,gw];by_cases OE:j=i
  ·subst OE;exact⟨λ_=>⟨c,hc,hp,hs,ha⟩,λ_=>.inl rfl⟩
  ·rw[<- H q j OE];exact⟨λh=>h.resolve_left OE,.inr⟩
 ·rw[show ay K p (dM i (K p)) q=K q from qI hq];by_cases OE:j=i
  ·subst OE;refine⟨λh=>ax h (h0 q),λ⟨d,h1,h2,_⟩=>?_⟩;rw[hc] at h1;cases h1;exact ax (h2.symm.trans hp) hq
  ·exact H q j OE
theorem pW.full {K':Int->List Int} {l:List Int} (H:pW L on (ay K p l) p)(H0:pW L on K i)(Y':p≠i)(hk:∀q,p ∈ ay K p l q↔p ∈ K q)(h:(K p≠[]/\l≠[])\/fc L p=none):oQ L on (ay K p l):=by
 intro q j;by_cases hj:j=p
 ·subst hj;rw[hk q,H0 q j Y',show ay K j l j=l from qP rfl];rcases h with ⟨h1,h2⟩|h
  ·exact⟨λ⟨d,g1,g2,g3,_⟩=>⟨d,g1,g2,g3,.inr h2⟩,λ⟨d,g1,g2,g3,_⟩=>⟨d,g1,g2,g3,.inr h1⟩⟩
  ·exact⟨λ⟨d,g1,_⟩=>(by rw[h] at g1;cases g1),λ⟨d,g1,_⟩=>(by rw[h] at g1;cases g1)⟩
 ·exact H q j hj
theorem uf (Y':p≠i)(q:Int):p ∈ ay K p (dM i (K p)) q↔p ∈ K q:=by
 unfold ay;split
 ·rename_i e;rw[gw,e];exact⟨λh=>h.resolve_left Y',.inr⟩
 ·exact Iff.rfl
theorem tZ (Y':p≠i)(q:Int):p ∈ ay K p (dE i (K p)) q↔p ∈ K q:=by
 unfold ay;split
 ·rename_i e;rw[gt,e];exact⟨λh=>h.1,λh=>⟨h,Y'⟩⟩
 ·exact Iff.rfl
theorem pW.del (hc:fc L i=some c)(hp:c.par=p)(Y':p≠i)(H:pW L on K i)(h0:∀q,i ∈ K q->q=p)(ha:¬(on i=true\/K i≠[])):pW L on (ay K p (dE i (K p))) p:=by
 intro q j hj;have e1:ay K p (dE i (K p)) j=K j:=qI hj;rw[e1];by_cases OE:j=i
 ·subst OE;refine⟨λh=>?_,λ⟨d,h1,h2,h3,h4⟩=>ax h4 ha⟩;by_cases hq:q=p
  ·subst hq;rw[show ay K q (dE j (K q)) q=dE j (K q) from qP rfl,gt] at h;exact ax rfl h.2
  ·rw[show ay K p (dE j (K p)) q=K q from qI hq] at h;exact ax (h0 q h) hq
 ·rw[<- H q j OE];unfold ay;split
  ·rename_i e;rw[gt,e];exact⟨λh=>h.1,λh=>⟨h,OE⟩⟩
  ·exact Iff.rfl
end
section
variable {L:List CD} {on:Int->Bool}
theorem jH:∀{xs:List Int} {i x:Int} {K:Int->List Int},cj L i xs->pW L on K x->x ∉ xs->(xs≠[]->on i=true\/K i≠[])->(∀y ∈ xs.tail,K y≠[])/\(xs≠[]->K 0≠[])
 | [],i,x,K,_,_,_,_=>⟨λ_ h=>by simp at h,λh=>ax rfl h⟩
 | [z],i,x,K,h,H,hx,ha=>by obtain⟨rfl,c,hc,hs,h0⟩:=h;have h0:c.par=0:=h0;have:=(H 0 z (λe=>hx (by simp[e]))).2 ⟨c,hc,h0,hs,ha ρp⟩;exact⟨λ_ h=>by simp at h,λ_ e=>by rw[e] at this;cases this⟩
 | z::p::r,i,x,K,h,H,hx,ha=>by
  obtain⟨rfl,c,hc,hs,hr⟩:=h;have hp:=hr.1;have:=(H p z (λe=>hx (by simp[e]))).2 ⟨c,hc,hp.symm,hs,ha ρp⟩;have hK:K p≠[]:=λe=>by rw[e] at this;cases this
  obtain⟨h1,h2⟩:=jH hr H (λe=>hx (by simp at e ⊢;exact .inr e)) (λ_=>.inr (hp ▸ hK));refine⟨λy hy=>?_,λ_=>h2 ρp⟩;simp only[List.tail_cons,qC] at hy;rcases hy with rfl|hy
  ·exact hK
  ·exact h1 y hy
theorem vw (nz:fc L 0=none):∀{xs:List Int} {i:Int} {K:Int->List Int},cj L i xs->xs≠[]->(0::xs).Nodup->(∀y ∈ xs.tail,on y=false)->pW L on K i->(∀q,i ∉ K q)->(on i=true\/K i≠[])->oQ L on (bo K xs).2/\(∀y,y ∈ (bo K xs).1↔y ∈ xs/\(y=i\/K y=[]))/\(∀p j,j ∈ K p->j ∈ (bo K xs).2 p)
 | [],i,K,_,h,_,_,_,_,_=>ax rfl h
 | [z],i,K,h,_,hn,_,H,h0,ha=>by
  obtain⟨rfl,c,hc,hs,hp⟩:=h;have hp:c.par=0:=hp;have hz:(0:Int)≠z:=λe=>by rw[<- e,nz] at hc;cases hc
  have A:=pW.add hc hs hp hz H h0 ha;refine⟨A.full H hz (uf hz) (.inr nz) (K':=K),λy=>?_,λp j hj=>?_⟩
  ·simp only[bo,qS];exact⟨λe=>⟨e,.inl e⟩,λe=>e.1⟩
  ·simp only[bo];unfold ay;split
   ·rename_i e;rw[e] at hj;exact gw.2 (.inr hj)
   ·exact hj
 | z::p::r,i,K,h,_,hn,NJ,H,h0,ha=>by
  obtain⟨rfl,c,hc,hs,hr⟩:=h;have hp:=hr.1;have XH:(0::p::r).Nodup:=by simp at hn ⊢;exact⟨⟨hn.1.2.1,hn.1.2.2⟩,hn.2.2⟩
  have Um:p≠z:=λe=>by simp[e] at hn
  have A:=pW.add hc hs hp.symm Um H h0 ha;by_cases hK:K p=[]
  ·have OG:cj L p (p::r):=hp ▸ hr;obtain⟨h1,h2,h3⟩:=vw nz OG ρp XH (λy hy=>NJ y (by simp at hy ⊢;exact .inr hy)) A (λq hq=>by
    rw[uf Um q] at hq;obtain⟨d,_,_,_,g⟩:=(H q p Um).1 hq;rcases g with g|g
    ·rw[NJ p ρp] at g;cases g
    ·exact g hK) (.inr (by rw[show ay K p (dM z (K p)) p=dM z (K p) from qP rfl];exact vz _ _))
   have e:bo K (z::p::r)=(z::(bo (ay K p (dM z (K p))) (p::r)).1,(bo (ay K p (dM z (K p))) (p::r)).2):=by rw[bo];exact qP hK
   rw[e];refine⟨h1,λy=>?_,λq j hj=>h3 q j ?_⟩
   ·simp only[qC];rw[h2 y];constructor
    ·rintro(rfl|⟨g1,g2⟩)
     ·exact⟨.inl rfl,.inl rfl⟩
     ·refine⟨.inr (by simpa using g1),.inr ?_⟩;by_cases hy:y=p
      ·rw[hy];exact hK
      ·rcases g2 with g2|g2
       ·exact ax g2 hy
       ·rw[show ay K p (dM z (K p)) y=K y from qI hy] at g2;exact g2
    ·rintro⟨rfl|g1,g2⟩
     ·exact .inl rfl
     ·by_cases hyz:y=z
      ·exact .inl hyz
      ·refine .inr ⟨by simpa using g1,?_⟩;by_cases hy:y=p
       ·exact .inl hy
       ·right;rw[show ay K p (dM z (K p)) y=K y from qI hy];exact g2.resolve_left hyz
   ·unfold ay;split
    ·rename_i e;rw[e] at hj;exact gw.2 (.inr hj)
    ·exact hj
  ·have e:bo K (z::p::r)=([z],ay K p (dM z (K p))):=by rw[bo];exact qI hK
   rw[e];refine⟨A.full H Um (uf Um) (.inl ⟨hK,vz _ _⟩) (K':=K),λy=>?_,λq j hj=>?_⟩
   ·simp only[qS];have OG:cj L p (p::r):=hp ▸ hr;obtain⟨g1,_⟩:=jH OG H (qD.1 (qD.1 hn).2).1 (λ_=>.inr hK);constructor
    ·rintro rfl;exact⟨by simp,.inl rfl⟩
    ·rintro⟨hy,rfl|hk⟩
     ·rfl
     ·simp only[qC] at hy;rcases hy with hy|hy|hy
      ·exact hy
      ·exact ax (hy ▸ hk) hK
      ·exact ax hk (g1 y (by simpa using hy))
   ·show j ∈ ay K p (dM z (K p)) q;unfold ay;split
    ·rename_i e;rw[e] at hj;exact gw.2 (.inr hj)
    ·exact hj
theorem rD (nz:fc L 0=none):∀{xs:List Int} {i:Int} {K:Int->List Int},cj L i xs->xs≠[]->(0::xs).Nodup->(∀y ∈ xs.tail,on y=false)->pW L on K i->(∀c,fc L i=some c->∀q,i ∈ K q->q=c.par)->¬(on i=true\/K i≠[])->oQ L on (aS K xs).2/\(∀y ∈ xs,(y ∈ (aS K xs).1↔¬(on y=true\/(aS K xs).2 y≠[])))/\(∀p j,j ∈ (aS K xs).2 p->j ∈ K p)/\(∀j,j≠0->j ∉ xs.tail->(aS K xs).2 j=K j)
 | [],i,K,_,h,_,_,_,_,_=>ax rfl h
 | [z],i,K,h,_,hn,_,H,h0,ha=>by
  obtain⟨rfl,c,hc,hs,hp⟩:=h;have hp:c.par=0:=hp;have hz:(0:Int)≠z:=λe=>by rw[<- e,nz] at hc;cases hc
  have A:=pW.del hc hp hz H (λq hq=>(h0 c hc q hq).trans hp) ha;refine⟨A.full H hz (tZ hz) (.inr nz) (K':=K),λy hy=>?_,λp j hj=>?_,λj h1 _=>qI h1⟩
  ·simp only[qS] at hy;subst hy;simp only[aS,qS,true_iff];rw[show ay K 0 (dE y (K 0)) y=K y from qI hz.symm];exact ha
  ·simp only[aS] at hj;unfold ay at hj;split at hj
   ·rename_i e;rw[e];exact(gt.1 hj).1
   ·exact hj
 | z::p::r,i,K,h,_,hn,NJ,H,h0,ha=>by
  obtain⟨rfl,c,hc,hs,hr⟩:=h;have hp:=hr.1;have XH:(0::p::r).Nodup:=by simp at hn ⊢;exact⟨⟨hn.1.2.1,hn.1.2.2⟩,hn.2.2⟩
  have Um:p≠z:=λe=>by simp[e] at hn
  have Sa:z≠0:=λe=>by simp[e] at hn
  have A:=pW.del hc hp.symm Um H (λq hq=>(h0 c hc q hq).trans hp.symm) ha;have OG:cj L p (p::r):=hp ▸ hr;by_cases hK:dE z (K p)=[]
  ·obtain⟨h1,h2,h3,h4⟩:=rD nz OG ρp XH (λy hy=>NJ y (by simp at hy ⊢;exact .inr hy)) A (λd hd q hq=>by
    rw[tZ Um q] at hq;obtain⟨d',g1,g2,_,g⟩:=(H q p Um).1 hq;rw[hd] at g1;cases g1;exact g2.symm) (by
     rw[show ay K p (dE z (K p)) p=dE z (K p) from qP rfl,NJ p ρp];rintro(g|g)
     ·cases g
     ·exact g hK)
   have e:aS K (z::p::r)=(z::(aS (ay K p (dE z (K p))) (p::r)).1,(aS (ay K p (dE z (K p))) (p::r)).2):=by rw[aS];exact qP hK
   rw[e];have hzr:z ∉ (p::r).tail:=λe=>by simp at hn e;exact hn.2.1.2 e
   have hkz:(aS (ay K p (dE z (K p))) (p::r)).2 z=K z:=(h4 z Sa hzr).trans (qI Um.symm);refine⟨h1,λy hy=>?_,λq j hj=>?_,λj g1 g2=>?_⟩
   ·simp only[qC];by_cases hyz:y=z
    ·subst hyz;simp only[true_or,true_iff];rw[hkz];exact ha
    ·have hy2:y ∈ p::r:=by simp only[qC] at hy ⊢;exact hy.resolve_left hyz
     rw[<- h2 y hy2];exact⟨λg=>g.resolve_left hyz,.inr⟩
   ·have:=h3 q j hj;unfold ay at this;split at this
    ·rename_i e;rw[e];exact(gt.1 this).1
    ·exact this
   ·simp only[List.tail_cons,qC,not_or] at g2;exact(h4 j g1 g2.2).trans (qI g2.1)
  ·have e:aS K (z::p::r)=([z],ay K p (dE z (K p))):=by rw[aS];exact qI hK
   rw[e];have F:oQ L on (ay K p (dE z (K p))):=A.full H Um (tZ Um) (.inl ⟨λe=>hK (by rw[e];rfl),hK⟩) (K':=K);refine⟨F,λy hy=>?_,λq j hj=>?_,λj g1 g2=>?_⟩
   ·simp only[qS];by_cases hyz:y=z
    ·subst hyz;simp only[true_iff];rw[show ay K p (dE y (K p)) y=K y from qI Um.symm];exact ha
    ·have hy2:y ∈ p::r:=by simp only[qC] at hy ⊢;exact hy.resolve_left hyz
     have hkp:ay K p (dE z (K p)) p≠[]:=by rw[show ay K p (dE z (K p)) p=dE z (K p) from qP rfl];exact hK
     obtain⟨g1,_⟩:=jH (x:=z) OG (λq j _=>F q j) (qD.1 (qD.1 hn).2).1 (λ_=>.inr hkp);refine⟨λe=>ax e hyz,λg=>ax (.inr ?_) g⟩;simp only[qC] at hy2;rcases hy2 with hy2|hy2
     ·rw[hy2];exact hkp
     ·exact g1 y (by simpa using hy2)
   ·have hj:j ∈ ay K p (dE z (K p)) q:=hj;unfold ay at hj;split at hj
    ·rename_i e;rw[e];exact(gt.1 hj).1
    ·exact hj
   ·simp only[List.tail_cons,qC,not_or] at g2;exact qI g2.1
end
theorem vu:∀{xs:List Int} {K:Int->List Int} {j:Int},j≠0->j ∉ xs.tail->(bo K xs).2 j=K j
 | [],_,_,_,_=>rfl
 | [z],_,j,h,_=>qI h
 | z::p::r,K,j,h,h2=>by
  simp only[List.tail_cons,qC,not_or] at h2;unfold bo;split
  ·exact(vu (xs:=p::r) h h2.2).trans (qI h2.1)
  ·exact qI h2.1
structure nh (L:List CD):Prop where
 nz:fc L 0=none
 par:∀i c,fc L i=some c->c.par=0\/∃d,fc L c.par=some d/\d.lf=false/\(eZ c=true->eZ d=true)
 rk:∃rk:Int->Nat,∀i c,fc L i=some c->rk i<=900/\(c.par≠0->rk c.par<rk i)
 cls:∀c ∈ L,Go.Proofs.YtfdlemkplejdnaaGreat.kd c.r0 c.r1 c.r2≠0/\(Go.Proofs.YtfdlemkplejdnaaGreat.kd c.l0 c.l1 c.l2≠0/\Go.Proofs.YtfdlemkplejdnaaGreat.kd c.l0 c.l1 c.l2≠4)/\Go.Proofs.YtfdlemkplejdnaaGreat.kd c.u0 c.u1 c.u2≠0
 len:L.length<=64
 ids:∀c ∈ L,fc L c.id=some c
theorem fH {L:List CD} {i:Int} {c:CD} (h:fc L i=some c):c ∈ L/\c.id=i:=by
 induction L with
 | nil=>cases h
 | cons a r ih=>exact ηH
structure ld (L:List CD) (i:Int) (xs:List Int):Prop where
 up:dB L i xs
 len:xs.length<=1000
 nd:(0::xs).Nodup
 sh:(∀c,fc L i=some c->eZ c=true)->cj L i xs
 ne:xs≠[]
 hd:i ∈ xs
 inn:∀y ∈ xs.tail,∃d,fc L y=some d/\d.lf=false
theorem nh.path {L:List CD} (h:nh L) {i:Int} {c:CD} (hc:fc L i=some c):∃xs,ld L i xs:=by
 obtain⟨rk,hr⟩:=h.rk;have main:∀n i c,fc L i=some c->rk i<=n->∃xs,dB L i xs/\xs.length<=n+1/\(0::xs).Nodup/\(eZ c=true->cj L i xs)/\(∀y ∈ xs,y=i\/rk y<rk i)/\(∃r,xs=i::r/\∀y ∈ r,∃d,fc L y=some d/\d.lf=false):=by
  intro n
  induction n with
  | zero=>
   intro i c hc hn;have pZ:(0:Int)≠i:=λe=>by rw[<- e,h.nz] at hc;cases hc
   rcases h.par i c hc with h0|⟨d,hd,hl,hs⟩
   ·exact ηj
   ·have h0:c.par≠0:=λe=>by rw[e,h.nz] at hd;cases hd
    have:=(hr i c hc).2 h0;omega
  | succ n ih=>
   intro i c hc hn;have pZ:(0:Int)≠i:=λe=>by rw[<- e,h.nz] at hc;cases hc
   rcases h.par i c hc with h0|⟨d,hd,hl,hs⟩
   ·exact ηj
   ·have h0:c.par≠0:=λe=>by rw[e,h.nz] at hd;cases hd
    have Ku:=(hr i c hc).2 h0;obtain⟨xs,g1,g2,g3,g4,g5,r,g6,g7⟩:=ih c.par d hd ρa;refine⟨i::xs,⟨c,hc,rfl,g1⟩,by simp;omega,?_,λs=>⟨rfl,c,hc,s,g4 (hs s)⟩,λy hy=>?_,xs,rfl,λy hy=>?_⟩
    ·rw[qD] at g3 ⊢;rw[qD];refine⟨?_,λhi=>?_,g3.2⟩
     ·simp only[qC,not_or];exact⟨pZ,g3.1⟩
     ·rcases g5 i hi with e|e
      ·rw[e] at Ku;omega
      ·omega
    ·rcases qC.1 hy with e|e
     ·exact .inl e
     ·rcases g5 y e with e|e
      ·right;rw[e];exact Ku
      ·right;omega
    ·rw[g6] at hy;rcases qC.1 hy with e|e
     ·rw[e];exact⟨d,hd,hl⟩
     ·exact g7 y e
 obtain⟨xs,g1,g2,g3,g4,g5,r,g6,g7⟩:=main (rk i) i c hc (qR _);have:=(hr i c hc).1;exact⟨xs,g1,by omega,g3,λs=>g4 (s c hc),by rw[g6];simp,by rw[g6];simp,by rw[g6];exact g7⟩
def SS.okk (s:SS)(j:Int):Prop:=∀p,s.kd p j=if j ∈ s.A.K p then some ((s.e j).sh.t,s.fit j) else none
theorem eO {A:AS} {j:Int}:A.is j=true↔A.on j=true\/A.K j≠[]:=by unfold AS.is;simp only[Bool.or_eq_true,decide_eq_true_eq,List.length_pos_iff]
theorem SS.fit_same {s t:SS} {j:Int} (h1:(t.e j).c.lf=(s.e j).c.lf)(h2:t.A.is j=s.A.is j)(h3:(t.e j).cp.t=(s.e j).cp.t)(h4:t.kd j=s.kd j):t.fit j=s.fit j:=by unfold SS.fit;rw[h1,h2,h3,h4]
theorem oH:∀{xs:List Int} {s:SS} {i:Int},dB s.L i xs->xs.Nodup->(∀y c,fc s.L y=some c->(s.e y).c=c)->oQ s.L s.A.on s.A.K->(∀j c,fc s.L j=some c->s.A.is j=true->eZ c=true)->(∀j,j ∉ xs->s.okk j)->(∀j ∈ xs,∀p,(p≠(s.e j).c.par\/s.A.is j=false)->s.kd p j=none)->∀j,(s.settle xs).okk j
 | [],s,i,_,_,_,_,_,h,_,j=>h j ρp
 | x::r,s,i,hu,hn,WF,hK,hact,h1,h2,j=>by
  obtain⟨c,hc,rfl,hur⟩:=hu;rw[qD] at hn;have KU:=WF x c hc;have Lj:∀y,y=c.par->y ∈ r\/fc s.L y=none:=by
   rintro y rfl;cases r with
   | nil=>exact .inr hur
   | cons z r=>obtain⟨_,_,e,_⟩:=hur;exact .inl (by simp[e])
  have QU:c.par≠x:=λe=>by
   rcases Lj x e.symm with g|g
   ·exact hn.1 g
   ·rw[g] at hc;cases hc
  have TE:∀q k,fc s.L k=none->k ∉ s.A.K q:=λq k hk hm=>by obtain⟨d,hd,_⟩:=(hK q k).1 hm;rw[hk] at hd;cases hd
  have key:(∀k,k ∉ r->(s.settle1 x).okk k)/\(∀k,k≠x->∀q,(s.settle1 x).kd q k=s.kd q k)/\(s.settle1 x).L=s.L/\(s.settle1 x).e=s.e/\(s.settle1 x).A=s.A:=by
   unfold SS.settle1;split
   ·rename_i ha;refine⟨λk hk p=>?_,λk hk q=>?_,rfl,rfl,rfl⟩
    ·simp only[KU];by_cases hkx:k=x
     ·subst hkx;by_cases hp:p=c.par
      ·subst hp;have hm:k ∈ s.A.K c.par:=(hK _ _).2 ⟨c,hc,rfl,hact k c hc ha,eO.1 ha⟩;rw[qP hm];show (if c.par=c.par then _ else _:TM) k=_;rw[qP rfl];unfold aP;rw[qP rfl]
       congr 2
       symm;exact SS.fit_same rfl rfl rfl (by show ay s.kd c.par _ k=_;exact qI (λe=>QU e.symm))
      ·have hm:k ∉ s.A.K p:=λhm=>by
        obtain⟨d,hd,e,_⟩:=(hK p k).1 hm;rw[hc] at hd;cases hd;exact hp e.symm
       rw[qI hm];show (if p=c.par then _ else s.kd p:TM) k=_;rw[qI hp];exact h2 k ρp p (.inl (by rw[KU];exact hp))
     ·have hko:=h1 k (by simp[hkx,hk]);have e1:(ay s.kd c.par (aP (s.kd c.par) x (some ((s.e x).sh.t,s.fit x)))) p k=s.kd p k:=by
       unfold ay;split
       ·rename_i e;rw[e];exact qI hkx
       ·rfl
      rw[e1,hko p];by_cases hm:k ∈ s.A.K p
      ·rw[qP hm,qP hm]
       congr 2
       symm;exact SS.fit_same rfl rfl rfl (by
        show ay s.kd c.par _ k=_;exact qI (λe=>by
         rcases Lj k e with g|g
         ·exact hk g
         ·exact TE p k g hm))
      ·rw[qI hm,qI hm]
    ·simp only[KU];unfold ay;split
     ·rename_i e;rw[e];exact qI hk
     ·rfl
   ·rename_i ha;refine⟨λk hk=>?_,λ_ _ _=>rfl,rfl,rfl,rfl⟩;by_cases hkx:k=x
    ·subst hkx;intro p;have hm:k ∉ s.A.K p:=λhm=>by
      obtain⟨d,hd,e,_,g⟩:=(hK p k).1 hm;exact ha (eO.2 g)
     rw[qI hm];exact h2 k ρp p (.inr (by simpa using ha))
    ·exact h1 k (by simp[hkx,hk])
  obtain⟨k1,k2,e1,e2,e3⟩:=key;refine oH (s:=s.settle1 x) (xs:=r) (i:=c.par) (by rw[e1];exact hur) hn.2 (by rw[e1,e2];exact WF) (by rw[e1,e3];exact hK) (by rw[e1,e3];exact hact) k1 (λk hk p hp=>?_) j;rw[e2,e3] at hp;rw[k2 k (λe=>hn.1 (e ▸ hk)) p];exact h2 k (by simp[hk]) p hp
theorem fU (s:SS)(xs:List Int):(s.settle xs).L=s.L/\(s.settle xs).e=s.e/\(s.settle xs).A=s.A/\(s.settle xs).lv=s.lv/\(s.settle xs).clk=s.clk/\(s.settle xs).acc=s.acc/\(s.settle xs).T=s.T/\(s.settle xs).Lm=s.Lm:=by
 induction xs generalizing s with
 | nil=>exact⟨rfl,rfl,rfl,rfl,rfl,rfl,rfl,rfl⟩
 | cons x r ih=>
  have e:(s.settle1 x).L=s.L/\(s.settle1 x).e=s.e/\(s.settle1 x).A=s.A/\(s.settle1 x).lv=s.lv/\(s.settle1 x).clk=s.clk/\(s.settle1 x).acc=s.acc/\(s.settle1 x).T=s.T/\(s.settle1 x).Lm=s.Lm:=by unfold SS.settle1;split<;>exact⟨rfl,rfl,rfl,rfl,rfl,rfl,rfl,rfl⟩
  obtain⟨h1,h2,h3,h4,h5,h6,h7,h8⟩:=ih (s.settle1 x);obtain⟨g1,g2,g3,g4,g5,g6,g7,g8⟩:=e;exact⟨h1.trans g1,h2.trans g2,h3.trans g3,h4.trans g4,h5.trans g5,h6.trans g6,h7.trans g7,h8.trans g8⟩
def SS.okl (s:SS)(j:Int):Prop:=s.lv j=match fc s.L j with
 | some c=>if c.lf=true/\SS.real c=true/\(s.e j).q≠[] then some ((s.e j).du.e,(s.e j).du.t) else none
 | none=>none
structure SS.Inv (s:SS):Prop where
 lok:nh s.L
 ec:∀i c,fc s.L i=some c->(s.e i).c=c
 on:∀i,s.A.on i=true↔∃c,fc s.L i=some c/\c.lf=true/\eZ c=true/\(s.e i).q≠[]
 kk:oQ s.L s.A.on s.A.K
 kd:∀j,s.okk j
 lv:∀j,s.okl j
section
variable {s t:SS}
theorem SS.Inv.leaf (h:s.Inv) {i:Int} {c:CD} (hc:fc s.L i=some c)(hl:c.lf=true):s.A.K i=[]:=by
 cases e:s.A.K i with
 | nil=>rfl
 | cons k r=>
  have hk:k ∈ s.A.K i:=by rw[e];simp
  obtain⟨d,hd,hp,_⟩:=(h.kk i k).1 hk;rcases h.lok.par k d hd with e|⟨d',Qa,hl',_⟩
  ·rw[<- hp,e,h.lok.nz] at hc;cases hc
  ·rw[hp,hc] at Qa;cases Qa;rw[hl] at hl';cases hl'
theorem SS.Inv.wf (h:s.Inv):s.Wf:=by
 refine⟨λc hc=>?_,h.lok.nz,λp j hj=>?_,λc hc=>?_,h.ec,λj hj=>?_,h.lok.cls,by have:=h.lok.len;omega⟩
 ·unfold bT;rcases h.lok.par c.id c (h.lok.ids c hc) with e|⟨d,hd,hl,_⟩
  ·simp[e]
  ·rw[hd];simp[hl]
 ·rw[h.kd j p] at hj;by_cases hm:j ∈ s.A.K p
  ·obtain⟨c,hc,hp,_⟩:=(h.kk p j).1 hm;exact⟨c,hc,hp⟩
  ·rw[qI hm] at hj;exact ax rfl hj
 ·obtain⟨xs,P⟩:=h.lok.path (h.lok.ids c hc);exact⟨xs,P.up,P.len⟩
 ·have:=h.lv j;unfold SS.okl at this;cases hc:fc s.L j with
  | none=>rw[hc] at this;exact ax this hj
  | some c=>
   rw[hc] at this;by_cases g:c.lf=true/\SS.real c=true/\(s.e j).q≠[]
   ·exact⟨c,rfl,g.1⟩
   ·simp only[qI g] at this;exact ax this hj
theorem SS.Inv.same (h:s.Inv)(hL:t.L=s.L)(hA:t.A=s.A)(hk:t.kd=s.kd)(hl:t.lv=s.lv)(he:∀j,(t.e j).c=(s.e j).c/\((t.e j).q=[]↔(s.e j).q=[])/\(t.e j).sh.t=(s.e j).sh.t/\(t.e j).cp.t=(s.e j).cp.t/\(t.e j).du.e=(s.e j).du.e/\(t.e j).du.t=(s.e j).du.t):t.Inv:=by
 refine⟨hL ▸ h.lok,λi c hc=>?_,λi=>?_,by rw[hL,hA];exact h.kk,λj p=>?_,λj=>?_⟩
 ·rw[(he i).1];exact h.ec i c (hL ▸ hc)
 ·rw[hA,hL,h.on i];constructor<;>rintro⟨c,h1,h2,h3,h4⟩
  ·exact⟨c,h1,h2,h3,λe=>h4 ((he i).2.1.1 e)⟩
  ·exact⟨c,h1,h2,h3,λe=>h4 ((he i).2.1.2 e)⟩
 ·rw[hA,hk,h.kd j p,(he j).2.2.1,SS.fit_same (t:=t) (s:=s) (by rw[(he j).1]) (by rw[hA]) (he j).2.2.2.1 (by rw[hk])]
 ·have:=h.lv j;unfold SS.okl at this ⊢;rw[hl,hL,this];cases fc s.L j with
  | none=>rfl
  | some c=>simp only[ne_eq,(he j).2.1,(he j).2.2.2.2.1,(he j).2.2.2.2.2]
end
theorem DN {L:List CD} {A:AS} (lok:nh L)(q:Int->List PK)(on:∀i,A.on i=true↔∃c,fc L i=some c/\c.lf=true/\eZ c=true/\q i≠[])(kk:oQ L A.on A.K):∀j c,fc L j=some c->A.is j=true->eZ c=true:=by
 intro j c hc hj;rcases eO.1 hj with g|g
 ·obtain⟨d,hd,_,hs,_⟩:=(on j).1 g;rw[hc] at hd;cases hd;exact hs
 ·obtain⟨k,hk⟩:=List.exists_mem_of_ne_nil _ g;obtain⟨d,hd,hp,hs,_⟩:=(kk j k).1 hk;rcases lok.par k d hd with e|⟨d',Qa,_,hs'⟩
  ·rw[<- hp,e,lok.nz] at hc;cases hc
  ·rw[hp,hc] at Qa;cases Qa;exact hs' hs
theorem rJ {L:List CD}:∀{xs:List Int} {i:Int},dB L i xs->∀y ∈ xs,∀c,fc L y=some c->c.par ∈ xs.tail\/fc L c.par=none
 | [],_,_,y,h,_,_=>by simp at h
 | [z],i,⟨c,h1,h2,h3⟩,y,h,d,hd=>by simp only[qS] at h;subst h;subst h2;rw[h1] at hd;cases hd;exact .inr h3
 | z::p::r,i,⟨c,h1,h2,h3⟩,y,h,d,hd=>by
  obtain⟨c',k1,k2,k3⟩:=h3;rcases qC.1 h with h|h
  ·subst h;subst h2;rw[h1] at hd;cases hd;exact .inl (by simp[k2])
  ·rcases rJ (xs:=p::r) ⟨c',k1,k2,k3⟩ y h d hd with g|g
   ·exact .inl (by simp only[List.tail_cons] at g ⊢;exact qb _ g)
   ·exact .inr g
section
variable {s u:SS} {i:Int} {xs:List Int}
theorem SS.Inv.rebuild (h:s.Inv)(P:ld s.L i xs)(hL:u.L=s.L)(WF:∀i c,fc s.L i=some c->(u.e i).c=c)(NJ:∀i,u.A.on i=true↔∃c,fc s.L i=some c/\c.lf=true/\eZ c=true/\(u.e i).q≠[])(WH:oQ s.L u.A.on u.A.K)(hlv:∀j,u.okl j)
  (Rp:∀j,j≠0->j ∉ xs->u.A.on j=s.A.on j/\u.A.K j=s.A.K j/\(u.e j).cp.t=(s.e j).cp.t/\(∀p,j ∈ s.A.K p->(u.e j).sh.t=(s.e j).sh.t)/\u.kd j=s.kd j)
  (hkd:∀p j,j ∉ xs->u.kd p j=s.kd p j) (Nj:∀j ∈ xs,∀p,u.kd p j=none\/u.kd p j=s.kd p j) (hina:∀j ∈ xs,u.A.is j=false->∀p,u.kd p j=none):(u.settle xs).Inv:=by
 obtain⟨e1,e2,e3,e4,_⟩:=fU u xs;have TE:∀(A:AS),oQ s.L A.on A.K->∀q k,fc s.L k=none->k ∉ A.K q:=λA hA q k hk hm=>by obtain⟨d,hd,_⟩:=(hA q k).1 hm;rw[hk] at hd;cases hd
 have ok:∀j,(u.settle xs).okk j:=by
  refine oH (i:=i) (by rw[hL];exact P.up) (qD.1 P.nd).2 (by rw[hL];exact WF) (by rw[hL];exact WH) (by rw[hL];exact DN h.lok (λi=>(u.e i).q) NJ WH) (λj hj p=>?_) (λj hj p hp=>?_)
  ·rw[hkd p j hj,h.kd j p];cases hc:fc s.L j with
   | none=>rw[qI (TE _ h.kk p j hc),qI (TE _ WH p j hc)]
   | some c=>
    have hj0:j≠0:=λe=>by rw[e,h.lok.nz] at hc;cases hc
    obtain⟨g1,g2,g3,g4,g5⟩:=Rp j hj0 hj;have iff:j ∈ u.A.K p↔j ∈ s.A.K p:=by rw[WH p j,h.kk p j,g1,g2]
    by_cases hm:j ∈ s.A.K p
    ·rw[qP hm,qP (iff.2 hm),g4 p hm,SS.fit_same (t:=u) (s:=s) (by rw[WF j c hc,h.ec j c hc]) (by unfold AS.is;rw[g1,g2]) g3 g5]
    ·rw[qI hm,qI (λg=>hm (iff.1 g))]
  ·rcases hp with hp|hp
   ·rcases Nj j hj p with g|g
    ·exact g
    ·rw[g,h.kd j p,qI];intro hm;obtain⟨d,hd,e,_⟩:=(h.kk p j).1 hm;rw[WF j d hd] at hp;exact hp e.symm
   ·exact hina j hj hp p
 refine⟨by rw[e1,hL];exact h.lok,by rw[e1,e2,hL];exact WF,by rw[e1,e2,e3,hL];exact NJ,by rw[e1,e3,hL];exact WH,ok,λj=>?_⟩;have:=hlv j;unfold SS.okl at this ⊢;rw[e1,e2,e4];exact this
end
section
variable {s:SS} {i:Int} {xs:List Int} {c:CD}
theorem mi (len:Int)(b:Bool):(s.due i len b).L=s.L/\(s.due i len b).A=s.A/\(s.due i len b).kd=s.kd/\(∀j,((s.due i len b).e j).c=(s.e j).c/\((s.due i len b).e j).q=(s.e j).q/\((s.due i len b).e j).sh=(s.e j).sh/\((s.due i len b).e j).cp=(s.e j).cp/\((s.due i len b).e j).tot=(s.e j).tot/\(j≠i->((s.due i len b).e j).du=(s.e j).du/\(s.due i len b).lv j=s.lv j))/\(s.due i len b).clk=s.clk/\(s.due i len b).acc=s.acc/\(s.due i len b).T=s.T/\(s.due i len b).Lm=s.Lm:=by
 have ee:∀(l:LF) j,((s.duesTo i l).e j).c=(s.e j).c/\((s.duesTo i l).e j).q=(s.e j).q/\((s.duesTo i l).e j).sh=(s.e j).sh/\((s.duesTo i l).e j).cp=(s.e j).cp/\((s.duesTo i l).e j).tot=(s.e j).tot/\(j≠i->((s.duesTo i l).e j).du=(s.e j).du/\(s.duesTo i l).lv j=s.lv j):=λl j=>by unfold SS.duesTo SS.setE ay aP;exact ηh
 unfold SS.due;split
 ·dsimp only;split
  ·refine⟨rfl,rfl,rfl,λj=>?_,rfl,rfl,rfl,rfl⟩;obtain⟨h1,h2,h3,h4,h5,h6⟩:=ee (if b then (s.e i).du.took len (aw (s.e i).q) else (s.e i).du.headed (aw (s.e i).q)) j;refine⟨h1,h2,h3,h4,h5,λhj=>⟨(h6 hj).1,?_⟩⟩;exact(show aP _ i none j=_ from qI hj).trans (h6 hj).2
  ·exact⟨rfl,rfl,rfl,ee _,rfl,rfl,rfl,rfl⟩
 ·exact⟨rfl,rfl,rfl,λj=>⟨rfl,rfl,rfl,rfl,rfl,λ_=>⟨rfl,rfl⟩⟩,rfl,rfl,rfl,rfl⟩
theorem BA (len:Int)(b:Bool)(hc:fc s.L i=some c)(KU:(s.e i).c=c)(hl:c.lf=true)(h0:SS.real c=false->s.lv i=none):(s.due i len b).okl i:=by
 obtain⟨h1,_,_,h4,_⟩:=mi (s:=s) (i:=i) len b;have h4:=h4 i;unfold SS.okl;rw[h1,hc];simp only[];rw[h4.2.1];unfold SS.due;rw[KU];cases hr:SS.real c with
 | false=>simp only[Bool.false_eq_true,if_false,false_and,and_false];exact h0 hr
 | true=>
  by_cases hq:(s.e i).q=[]
  ·simp[hl,hq,aP]
  ·simp[hl,hq,SS.duesTo,SS.setE,ay,aP]
theorem sI (s:SS)(y:Int):(s.sleep1 y).clk=s.clk/\(s.sleep1 y).acc=s.acc/\(s.sleep1 y).T=s.T/\(s.sleep1 y).Lm=s.Lm/\(∀j,((s.sleep1 y).e j).cp=(s.e j).cp/\((s.sleep1 y).e j).du=(s.e j).du/\((s.sleep1 y).e j).tot=(s.e j).tot)/\(∀p j,(s.sleep1 y).kd p j=if j=y/\p=(s.e y).c.par then none else s.kd p j)/\(∀p j,(s.e j).c.par=p->(s.sleep1 y).kd p j≠none->(s.sleep1 y).e j=s.e j):=by
 unfold SS.sleep1;refine⟨rfl,rfl,rfl,rfl,λj=>?_,λp j=>?_,λp j hp hn=>?_⟩
 ·dsimp only;split
  ·dsimp only;split<;>exact⟨rfl,rfl,rfl⟩
  ·exact⟨rfl,rfl,rfl⟩
 ·dsimp only;unfold ay aP;by_cases h1:p=(s.e y).c.par
  ·subst h1;simp
  ·simp[h1]
 ·dsimp only at hn ⊢;split
  ·rename_i KW;dsimp only;split
   ·rename_i hj;rw[hj.2] at hp;rw[<- hp,show ay s.kd (s.e y).c.par (aP (s.kd (s.e y).c.par) y none) (s.e y).c.par=aP (s.kd (s.e y).c.par) y none from qP rfl] at hn;exact ax (KW j) hn
   ·rfl
  ·rfl
theorem iJ:∀(ys:List Int)(s:SS),(ys.foldl SS.sleep1 s).L=s.L/\(ys.foldl SS.sleep1 s).A=s.A/\(ys.foldl SS.sleep1 s).lv=s.lv/\(∀j,((ys.foldl SS.sleep1 s).e j).c=(s.e j).c/\((ys.foldl SS.sleep1 s).e j).q=(s.e j).q/\((ys.foldl SS.sleep1 s).e j).cp=(s.e j).cp/\((ys.foldl SS.sleep1 s).e j).du=(s.e j).du/\((ys.foldl SS.sleep1 s).e j).tot=(s.e j).tot)/\(∀p j,(ys.foldl SS.sleep1 s).kd p j=if j ∈ ys/\p=(s.e j).c.par then none else s.kd p j)/\(∀p j,(s.e j).c.par=p->(ys.foldl SS.sleep1 s).kd p j≠none->(ys.foldl SS.sleep1 s).e j=s.e j)/\((ys.foldl SS.sleep1 s).clk=s.clk/\(ys.foldl SS.sleep1 s).acc=s.acc/\(ys.foldl SS.sleep1 s).T=s.T/\(ys.foldl SS.sleep1 s).Lm=s.Lm)
 | [],s=>⟨rfl,rfl,rfl,λ_=>⟨rfl,rfl,rfl,rfl,rfl⟩,λp j=>by simp,λ_ _ _ _=>rfl,rfl,rfl,rfl,rfl⟩
 | y::r,s=>by
  obtain⟨h1,h2,h3,h4,h5,h6,h7⟩:=iJ r (s.sleep1 y);obtain⟨g1,g2,g3,g4,_⟩:=fV s y;obtain⟨m1,m2,m3,m4,m5,m6,m7⟩:=sI s y;simp only[List.foldl_cons];have kdeq:∀p j,(r.foldl SS.sleep1 (s.sleep1 y)).kd p j=if j ∈ y::r/\p=(s.e j).c.par then none else s.kd p j:=λp j=>by
   rw[h5,m6,(g2 j).1];by_cases a:j ∈ r/\p=(s.e j).c.par
   ·rw[qP a,qP ⟨by simp[a.1],a.2⟩]
   ·rw[qI a];by_cases b:j=y/\p=(s.e y).c.par
    ·rw[qP b,qP ⟨by simp[b.1],by rw[b.1];exact b.2⟩]
    ·rw[qI b,qI];rintro⟨hm,hp⟩;rcases qC.1 hm with e|e
     ·exact b ⟨e,by rw[<- e];exact hp⟩
     ·exact a ⟨e,hp⟩
  refine⟨h1.trans g1,h2.trans g4,h3.trans g3,λj=>⟨(h4 j).1.trans (g2 j).1,(h4 j).2.1.trans (g2 j).2,(h4 j).2.2.1.trans (m5 j).1,(h4 j).2.2.2.1.trans (m5 j).2.1,(h4 j).2.2.2.2.trans (m5 j).2.2⟩,kdeq,λp j hp hn=>?_,h7.1.trans m1,h7.2.1.trans m2,h7.2.2.1.trans m3,h7.2.2.2.trans m4⟩;rw[h6 p j (by rw[(g2 j).1];exact hp) hn];refine m7 p j hp (λe=>hn ?_);rw[h5,e];split<;>rfl
theorem SS.Inv.take {now:Int} {b:Bool} {p:PK} {r:List PK} (h:s.Inv)(hc:fc s.L i=some c)(hl:c.lf=true)(hq:(s.e i).q=p::r)(P:ld s.L i xs):(s.take now i b xs).Inv:=by
 rw[pR hq];obtain⟨s1,Lv⟩:=Nq (xs.foldl (SS.take1 p.len) (({s with clk:=now}:SS).setE i {s.e i with q:=r}));rw[Lv];have f:=ie p.len xs (({s with clk:=now}:SS).setE i {s.e i with q:=r});rw[Lv] at f;obtain⟨f1,f2,f3,f4,f5⟩:=f;have f6:∀j,j ∉ xs->s1.e j=s.e j:=λj hj=>by rw[<- Lv,iP hj];have OE:j≠i:=λe=>hj (by rw[e];exact P.hd);exact qI OE
 have fe:∀j,((({s with clk:=now}:SS).setE i {s.e i with q:=r}).e j).c=(s.e j).c/\((({s with clk:=now}:SS).setE i {s.e i with q:=r}).e j).q=(if j=i then r else (s.e j).q)/\((({s with clk:=now}:SS).setE i {s.e i with q:=r}).e j).du=(s.e j).du:=λj=>by unfold SS.setE ay;exact ηh
 have KU:=h.ec i c hc;obtain⟨d1,d2,d3,d4,_⟩:=mi (s:=s1) (i:=i) p.len b;have L1:s1.L=s.L:=f1;have A1:s1.A=s.A:=f3;have K1:s1.kd=s.kd:=f2;have V1:s1.lv=s.lv:=f4;have Uv:∀j,(s1.due i p.len b).okl j:=λj=>by
  by_cases hj:j=i
  ·subst hj;refine BA p.len b (by rw[L1];exact hc) (((f5 j).1.trans (fe j).1).trans KU) hl (λhr=>?_);have:=h.lv j;unfold SS.okl at this;rw[hc] at this;rw[V1,this];simp[hr]
  ·have:=h.lv j;unfold SS.okl at this ⊢;rw[d1,L1,((d4 j).2.2.2.2.2 hj).2,V1,this,(d4 j).2.1,(f5 j).2.1,(fe j).2.1,qI hj,((d4 j).2.2.2.2.2 hj).1,(f5 j).2.2,(fe j).2.2]
 have ec2:∀j c,fc s.L j=some c->((s1.due i p.len b).e j).c=c:=λj c hc=>by rw[(d4 j).1,(f5 j).1,(fe j).1];exact h.ec j c hc
 have q2:∀j,((s1.due i p.len b).e j).q=if j=i then r else (s.e j).q:=λj=>by rw[(d4 j).2.1,(f5 j).2.1,(fe j).2.1]
 have e2:∀j,j ∉ xs->((s1.due i p.len b).e j).sh=(s.e j).sh/\((s1.due i p.len b).e j).cp=(s.e j).cp:=λj hj=>by rw[(d4 j).2.2.1,(d4 j).2.2.2.1,f6 j hj];exact⟨rfl,rfl⟩
 obtain⟨s2,K6⟩:=Nq (s1.due i p.len b);rw[K6] at Uv ec2 q2 e2 d1 d2 d3 ⊢;have L2:s2.L=s.L:=d1.trans L1;have A2:s2.A=s.A:=d2.trans A1;have K2:s2.kd=s.kd:=d3.trans K1;have plain:(∀i',s.A.on i'=true↔∃c,fc s.L i'=some c/\c.lf=true/\eZ c=true/\(s2.e i').q≠[])->(s2.settle xs).Inv:=λNJ=>by refine h.rebuild P L2 ec2 (by rw[A2];exact NJ) (by rw[A2];exact h.kk) Uv (λj _ hj=>⟨by rw[A2],by rw[A2],by rw[(e2 j hj).2],λ_ _=>by rw[(e2 j hj).1],by rw[K2]⟩) (λp j _=>by rw[K2]) (λj _ p=>.inr (by rw[K2])) (λj hj hi p=>?_);rw[K2,h.kd j p,qI];intro hm;obtain⟨d,hd,_,_,g⟩:=(h.kk p j).1 hm;rw[A2,eO.2 g] at hi;cases hi
 by_cases hr:(s2.e i).q=[]
 ·rw[qP hr];have NA:r=[]:=by have:=q2 i;rw[qP rfl,hr] at this;exact this.symm
  unfold SS.sleep;rw[ec2 i c hc,A2];by_cases UW:eZ c=true/\s.A.is i=true
  ·rw[qP UW];have MW:=P.sh (λd hd=>by rw[hc] at hd;cases hd;exact UW.1);have oni:∀y ∈ xs.tail,ay s.A.on i false y=false:=λy hy=>by
    unfold ay;split
    ·rfl
    ·cases ho:s.A.on y with
     | false=>rfl
     | true=>obtain⟨d,hd,MI,_⟩:=(h.on y).1 ho;obtain⟨d',Qa,Sz⟩:=P.inn y hy;rw[hd] at Qa;cases Qa;rw[MI] at Sz;cases Sz
   have hK0:s.A.K i=[]:=h.leaf hc hl;have KO1:pW s.L (ay s.A.on i false) s.A.K i:=λq j hj=>by rw[h.kk q j,show ay s.A.on i false j=s.A.on j from qI hj]
   obtain⟨o1,o2,o3,o4⟩:=rD h.lok.nz MW P.ne P.nd oni KO1 (λd hd q hm=>by
    obtain⟨d',Qa,e,_⟩:=(h.kk q i).1 hm;rw[hd] at Qa;cases Qa;exact e.symm) (by
     rw[show ay s.A.on i false i=false from qP rfl,hK0];rintro(g|g)
     ·cases g
     ·exact g rfl)
   obtain⟨s3,NK⟩:=Nq ({s2 with A:=⟨ay s.A.on i false,(aS s.A.K xs).2⟩}:SS);have a3:s3.L=s.L/\s3.e=s2.e/\s3.A=⟨ay s.A.on i false,(aS s.A.K xs).2⟩/\s3.lv=s2.lv/\s3.kd=s.kd:=by rw[<- NK];exact⟨L2,rfl,rfl,rfl,K2⟩
   obtain⟨a31,UJ,VC,a34,WB⟩:=a3;rw[NK];obtain⟨z1,z2,z3,z4,z5,z6,_⟩:=iJ (aS s.A.K xs).1 s3;obtain⟨u,hu⟩:=Nq ((aS s.A.K xs).1.foldl SS.sleep1 s3);rw[hu] at z1 z2 z3 z4 z5 z6 ⊢;have par3:∀j d,fc s.L j=some d->(s3.e j).c.par=d.par:=λj d hd=>by rw[UJ,ec2 j d hd]
   refine h.rebuild P (z1.trans a31) (λj d hd=>by rw[(z4 j).1,UJ];exact ec2 j d hd) (λj=>?_) (by rw[z2,VC];exact o1) (λj=>?_) (λj hj0 hj=>?_) (λq j hj=>?_) (λj hj q=>?_) (λj hj hi q=>?_)
   ·rw[z2,VC,(z4 j).2.1,UJ,q2];show ay s.A.on i false j=true↔_;by_cases hj:j=i
    ·subst hj;rw[show ay s.A.on j false j=false from qP rfl,qP rfl];exact⟨λg=>(by cases g),λ⟨_,_,_,_,g⟩=>ax NA g⟩
    ·rw[show ay s.A.on i false j=s.A.on j from qI hj,qI hj];exact h.on j
   ·have:=Uv j;unfold SS.okl at this ⊢;rw[z1,a31,z3,a34,(z4 j).2.1,(z4 j).2.2.2.1,UJ,this,L2]
   ·have OE:j≠i:=λe=>hj (e ▸ P.hd);refine⟨by rw[z2,VC];exact qI OE,by rw[z2,VC];exact o4 j hj0 (λe=>hj (List.mem_of_mem_tail e)),by rw[(z4 j).2.2.1,UJ,(e2 j hj).2],λq hm=>?_,funext λk=>?_⟩
    ·obtain⟨d,hd,hdp,_⟩:=(h.kk q j).1 hm;rw[z6 q j (by rw[par3 j d hd];exact hdp) (by
      rw[z5,qI (λg=>hj (gA j g.1)),WB,h.kd j q,qP hm];simp),UJ,(e2 j hj).1]
    ·rw[z5,WB];by_cases g:k ∈ (aS s.A.K xs).1/\j=(s3.e k).c.par
     ·exfalso;have hk:=gA k g.1;obtain⟨d,hd⟩:=eV P.up k hk;have hp:=g.2;rw[par3 k d hd] at hp;rcases rJ P.up k hk d hd with w|w
      ·exact hj (List.mem_of_mem_tail (hp ▸ w))
      ·rcases h.lok.par k d hd with v|⟨d',Qa,_⟩
       ·exact hj0 (hp.trans v)
       ·rw[w] at Qa;cases Qa
     ·rw[qI g]
   ·rw[z5,qI (λg=>hj (gA j g.1)),WB]
   ·rw[z5,WB];split
    ·exact .inl rfl
    ·exact .inr rfl
   ·have hn:j ∈ (aS s.A.K xs).1:=(o2 j hj).2 (λg=>by
     rw[z2,VC] at hi;rw[eO.2 g] at hi;cases hi)
    rw[z5,WB];by_cases e:q=(s3.e j).c.par
    ·rw[qP ⟨hn,e⟩]
    ·rw[qI (λg=>e g.2),h.kd j q,qI];intro hm;obtain⟨d,hd,hdp,_⟩:=(h.kk q j).1 hm;exact e (by rw[par3 j d hd];exact hdp.symm)
  ·rw[qI UW];refine plain (λj=>?_);rw[h.on j,q2];by_cases hj:j=i
   ·subst hj;rw[qP rfl];constructor
    ·rintro⟨d,hd,g1,g2,g3⟩;rw[hc] at hd;cases hd;exact ax ⟨g2,eO.2 (.inl ((h.on j).2 ⟨c,hc,g1,g2,g3⟩))⟩ UW
    ·rintro⟨_,_,_,_,g⟩;exact ax NA g
   ·rw[qI hj]
 ·rw[qI hr];refine plain (λj=>?_);rw[h.on j,q2];by_cases hj:j=i
  ·subst hj;have NA:r≠[]:=by have:=q2 j;rw[qP rfl] at this;rw[<- this];exact hr
   rw[qP rfl];constructor<;>rintro⟨d,g1,g2,g3,g4⟩
   ·exact⟨d,g1,g2,g3,NA⟩
   ·exact⟨d,g1,g2,g3,by rw[hq];simp⟩
  ·rw[qI hj]
end
theorem i7 (now:Int):∀(ys:List Int)(s:SS),(ys.foldl (SS.wake1 now) s).L=s.L/\(ys.foldl (SS.wake1 now) s).A=s.A/\(ys.foldl (SS.wake1 now) s).lv=s.lv/\(ys.foldl (SS.wake1 now) s).kd=s.kd/\(∀j,((ys.foldl (SS.wake1 now) s).e j).c=(s.e j).c/\((ys.foldl (SS.wake1 now) s).e j).q=(s.e j).q/\((ys.foldl (SS.wake1 now) s).e j).du=(s.e j).du/\((ys.foldl (SS.wake1 now) s).e j).tot=(s.e j).tot/\(j ∉ ys->(ys.foldl (SS.wake1 now) s).e j=s.e j))/\(ys.foldl (SS.wake1 now) s).clk=s.clk/\(ys.foldl (SS.wake1 now) s).acc=s.acc/\(ys.foldl (SS.wake1 now) s).T=s.T/\(ys.foldl (SS.wake1 now) s).Lm=s.Lm
 | [],s=>⟨rfl,rfl,rfl,rfl,λ_=>⟨rfl,rfl,rfl,rfl,λ_=>rfl⟩,rfl,rfl,rfl,rfl⟩
 | y::r,s=>by
  obtain⟨h1,h2,h3,h4,h5,h6,h7,h8,h9⟩:=i7 now r (s.wake1 now y);have g:∀j,((s.wake1 now y).e j).c=(s.e j).c/\((s.wake1 now y).e j).q=(s.e j).q/\((s.wake1 now y).e j).du=(s.e j).du/\((s.wake1 now y).e j).tot=(s.e j).tot/\(j≠y->(s.wake1 now y).e j=s.e j):=λj=>by
   unfold SS.wake1 SS.setE ay;simp only[];by_cases hj:j=y
   ·subst hj;simp
   ·simp[hj]
  refine⟨h1,h2,h3,h4,λj=>⟨(h5 j).1.trans (g j).1,(h5 j).2.1.trans (g j).2.1,(h5 j).2.2.1.trans (g j).2.2.1,(h5 j).2.2.2.1.trans (g j).2.2.2.1,λhj=>?_⟩,h6,h7,h8,h9⟩;simp only[qC,not_or] at hj;exact((h5 j).2.2.2.2 hj.2).trans ((g j).2.2.2.2 hj.1)
section
variable {s:SS} {i:Int} {xs:List Int} {c:CD}
theorem SS.Inv.wake {s1:SS} {now:Int} {p:PK} {len:Int} (h:s.Inv)(hc:fc s.L i=some c)(hl:c.lf=true)(hq:(s.e i).q=[])(P:ld s.L i xs)(h1:s1.L=s.L/\s1.A=s.A/\s1.kd=s.kd/\s1.lv=s.lv/\(∀j,j≠i->s1.e j=s.e j)/\(s1.e i).c=c/\(s1.e i).q=[p]/\(s1.e i).sh=(s.e i).sh/\(s1.e i).cp=(s.e i).cp):(s1.wake now i len xs).Inv:=by
 obtain⟨L1,A1,K1,V1,E1,C1,Q1,S1,P1⟩:=h1
 -- the dues
 obtain⟨s2,K6⟩:=Nq (if SS.real (s1.e i).c then s1.duesTo i (((s1.e i).du.woke (s1.e i).c.r0 (s1.e i).c.r1 (s1.e i).c.r2 now).headed len) else s1);have f2:s2.L=s.L/\s2.A=s.A/\s2.kd=s.kd/\(∀j,(s2.e j).c=(s1.e j).c/\(s2.e j).q=(s1.e j).q/\(s2.e j).sh=(s1.e j).sh/\(s2.e j).cp=(s1.e j).cp/\(j≠i->s2.e j=s1.e j/\s2.lv j=s1.lv j))/\s2.okl i:=by
  rw[<- K6];split
  ·rename_i hr;refine⟨L1,A1,K1,λj=>?_,?_⟩
   ·unfold SS.duesTo SS.setE ay aP;exact ηh
   ·unfold SS.okl;rw[show (s1.duesTo i (((s1.e i).du.woke (s1.e i).c.r0 (s1.e i).c.r1 (s1.e i).c.r2 now).headed len)).L=s.L from L1,hc];rw[C1] at hr;simp[SS.duesTo,SS.setE,ay,aP,hr,hl,Q1]
  ·rename_i hr;refine⟨L1,A1,K1,λj=>⟨rfl,rfl,rfl,rfl,λ_=>⟨rfl,rfl⟩⟩,?_⟩;have:=h.lv i;unfold SS.okl at this ⊢;rw[hc] at this;rw[C1] at hr;rw[L1,hc,V1,this];simp[hr]
 obtain⟨L2,A2,K2,E2,O2⟩:=f2;have Uv:∀j,s2.okl j:=λj=>by
  by_cases hj:j=i
  ·rw[hj];exact O2
  ·have:=h.lv j;unfold SS.okl at this ⊢;rw[L2,((E2 j).2.2.2.2 hj).2,((E2 j).2.2.2.2 hj).1,V1,E1 j hj,this]
 have c2:∀j,(s2.e j).c=(s.e j).c:=λj=>by
  rw[(E2 j).1];by_cases hj:j=i
  ·rw[hj,C1,h.ec i c hc]
  ·rw[E1 j hj]
 have q2:∀j,(s2.e j).q=if j=i then [p] else (s.e j).q:=λj=>by
  rw[(E2 j).2.1];by_cases hj:j=i
  ·rw[hj,Q1,qP rfl]
  ·rw[E1 j hj,qI hj]
 have n2:∀j,(s2.e j).sh=(s.e j).sh/\(s2.e j).cp=(s.e j).cp:=λj=>by
  rw[(E2 j).2.2.1,(E2 j).2.2.2.1];by_cases hj:j=i
  ·rw[hj];exact⟨S1,P1⟩
  ·rw[E1 j hj];exact⟨rfl,rfl⟩
 unfold SS.wake;simp only[];rw[C1] at K6 ⊢;rw[K6];have KU:=h.ec i c hc;by_cases hs:eZ c=true
 ·rw[qP hs];unfold SS.wakeS;rw[A2];have MW:=P.sh κf;have hK0:s.A.K i=[]:=h.leaf hc hl;have hoi:s.A.on i=false:=by
   cases ho:s.A.on i with
   | false=>rfl
   | true=>obtain⟨d,_,_,_,g⟩:=(h.on i).1 ho;exact ax hq g
  have oni:∀y ∈ xs.tail,ay s.A.on i true y=false:=λy hy=>by
   obtain⟨d',Qa,Sz⟩:=P.inn y hy;unfold ay;split
   ·rename_i e;rw[e,hc] at Qa;cases Qa;rw[hl] at Sz;cases Sz
   ·cases ho:s.A.on y with
    | false=>rfl
    | true=>obtain⟨d,hd,MI,_⟩:=(h.on y).1 ho;rw[hd] at Qa;cases Qa;rw[MI] at Sz;cases Sz
  have KO1:pW s.L (ay s.A.on i true) s.A.K i:=λq j hj=>by rw[h.kk q j,show ay s.A.on i true j=s.A.on j from qI hj]
  have ni:∀q,i ∉ s.A.K q:=λq hm=>by
   obtain⟨d,_,_,_,g⟩:=(h.kk q i).1 hm;rw[hoi,hK0] at g;rcases g with g|g
   ·cases g
   ·exact g rfl
  obtain⟨o1,o2,o3⟩:=vw h.lok.nz MW P.ne P.nd oni KO1 ni (.inl (qP rfl));obtain⟨s3,NK⟩:=Nq ({s2 with A:=⟨ay s.A.on i true,(bo s.A.K xs).2⟩}:SS);have a3:s3.L=s.L/\s3.e=s2.e/\s3.A=⟨ay s.A.on i true,(bo s.A.K xs).2⟩/\s3.lv=s2.lv/\s3.kd=s.kd:=by rw[<- NK];exact⟨L2,rfl,rfl,rfl,K2⟩
  obtain⟨a31,UJ,VC,a34,WB⟩:=a3;rw[NK];obtain⟨z1,z2,z3,z4,z5,_⟩:=i7 now (bo s.A.K xs).1 s3;obtain⟨u,hu⟩:=Nq ((bo s.A.K xs).1.foldl (SS.wake1 now) s3);rw[hu] at z1 z2 z3 z4 z5 ⊢;refine h.rebuild P (z1.trans a31) (λj d hd=>by rw[(z5 j).1,UJ,c2];exact h.ec j d hd) (λj=>?_) (by rw[z2,VC];exact o1) (λj=>?_) (λj hj0 hj=>?_) (λq j hj=>by rw[z4,WB]) (λj hj q=>.inr (by rw[z4,WB])) (λj hj hi q=>?_)
  ·rw[z2,VC,(z5 j).2.1,UJ,q2];show ay s.A.on i true j=true↔_;by_cases hj:j=i
   ·subst hj;rw[show ay s.A.on j true j=true from qP rfl,qP rfl];exact⟨λ_=>⟨c,hc,hl,hs,by simp⟩,λ_=>rfl⟩
   ·rw[show ay s.A.on i true j=s.A.on j from qI hj,qI hj];exact h.on j
  ·have:=Uv j;unfold SS.okl at this ⊢;rw[z1,a31,z3,a34,(z5 j).2.1,(z5 j).2.2.1,UJ,this,L2]
  ·have OE:j≠i:=λe=>hj (e ▸ P.hd);have hjy:j ∉ (bo s.A.K xs).1:=λg=>hj (iE j g);refine⟨by rw[z2,VC];exact qI OE,by rw[z2,VC];exact vu hj0 (λe=>hj (List.mem_of_mem_tail e)),by rw[(z5 j).2.2.2.2 hjy,UJ,(n2 j).2],λq _=>by rw[(z5 j).2.2.2.2 hjy,UJ,(n2 j).1],by rw[z4,WB]⟩
  ·have hn:s.A.is j=false:=by
    cases ho:s.A.is j with
    | false=>rfl
    | true=>
     rw[z2,VC] at hi;have hii:¬(ay s.A.on i true j=true\/(bo s.A.K xs).2 j≠[]):=λg=>by have:=(eO (A:=⟨ay s.A.on i true,(bo s.A.K xs).2⟩) (j:=j)).2 g;rw[hi] at this;cases this
     rcases eO.1 ho with g|g
     ·exact ax (.inl (by unfold ay;split;rfl;exact g)) hii
     ·obtain⟨k,hk⟩:=List.exists_mem_of_ne_nil _ g;exact ax (.inr (λe=>by have:=o3 j k hk;rw[e] at this;cases this)) hii
   rw[z4,WB,h.kd j q,qI];intro hm;obtain⟨d,hd,_,_,g⟩:=(h.kk q j).1 hm;rw[eO.2 g] at hn;cases hn
 ·rw[qI hs];refine⟨by rw[L2];exact h.lok,λj d hd=>by rw[c2];exact h.ec j d (L2 ▸ hd),λj=>?_,by rw[L2,A2];exact h.kk,λj q=>?_,Uv⟩
  ·rw[A2,L2,q2,h.on j];by_cases hj:j=i
   ·subst hj;rw[qP rfl];constructor
    ·rintro⟨d,hd,g1,g2,g3⟩;exact ax hq g3
    ·rintro⟨d,hd,g1,g2,g3⟩;rw[hc] at hd;cases hd;exact ax g2 hs
   ·rw[qI hj]
  ·rw[K2,A2,h.kd j q,(n2 j).1,SS.fit_same (t:=s2) (s:=s) (by rw[c2]) (by rw[A2]) (by rw[(n2 j).2]) (by rw[K2])]
theorem SS.Inv.clk (h:s.Inv)(now:Int):({s with clk:=now}:SS).Inv:=h.same rfl rfl rfl rfl (λj=>⟨rfl,Iff.rfl,rfl,rfl,rfl,rfl⟩)
theorem SS.Inv.push {p:PK} {a:Int} (h:s.Inv)(hq:(s.e i).q≠[]):({s.setE i {s.e i with q:=(s.e i).q++[p]} with acc:=a}:SS).Inv:=by
 refine h.same rfl rfl rfl rfl (λj=>?_);unfold SS.setE ay;simp only[];by_cases hj:j=i
 ·subst hj;simp[hq]
 ·simp[hj]
theorem SS.Inv.put {now n:Int} {p:PK} {s':SS} (h:s.Inv)(P:∀c,fc s.L i=some c->ld s.L i xs)(e:s.put now i p xs=(n,s')):s'.Inv:=by
 unfold SS.put at e;split at e
 ·cases e;exact h
 ·cases hc:fc s.L i with
  | none=>simp only[hc] at e;cases e;exact h.clk now
  | some c=>
   simp only[hc] at e;have h0:=h.clk now;by_cases g1:c.lf=false
   ·rw[qP g1] at e;cases e;exact h0
   rw[qI g1] at e;split at e
   ·cases e;exact h0
   split at e
   ·cases e;exact h0
   split at e
   ·cases e;exact h0
   split at e
   ·rename_i hq;cases e
    refine h0.wake (p:=p) hc (by simpa using g1) hq (P c hc) ⟨rfl,rfl,rfl,rfl,λj hj=>qI hj,?_,?_,?_,?_⟩<;>simp[SS.setE,ay,hq,h.ec i c hc]
   ·rename_i hq;cases e
    exact h0.push hq
theorem SS.Inv.chosen {x:Bool} {now:Int} (h:s.Inv)(K8:SS.Choose s now (some (i,x))):∃c xs p r,fc s.L i=some c/\c.lf=true/\(s.e i).q=p::r/\ld s.L i xs/\(eZ c=true->cj s.L i xs/\xs≠[]/\s.A.is i=true/\∀y ∈ 0::xs.tail,s.A.K y≠[]):=by
 have main:∃c,fc s.L i=some c/\c.lf=true/\(s.e i).q≠[]:=by
  rcases K8 with ⟨k,hk,e⟩|⟨_,⟨k,hk,e⟩|⟨_,e⟩⟩
  ·cases e
   obtain⟨y,hy,_⟩:=hk;have:=h.lv i;unfold SS.okl at this;cases hc:fc s.L i with
   | none=>rw[hc] at this;rw[this] at hy;cases hy
   | some c=>
    rw[hc] at this;by_cases g:c.lf=true/\SS.real c=true/\(s.e i).q≠[]
    ·exact⟨c,rfl,g.1,g.2.2⟩
    ·simp only[qI g] at this;rw[this] at hy;cases hy
  ·cases e
   have:∀j r,SS.Chain s now j r->∀i,r=some i->∃c,fc s.L i=some c/\c.lf=true/\(s.e i).q≠[]:=by
    intro j r LD
    induction LD with
    | none _=>intro i e;cases e
    | @leaf j k hp hl=>
     intro i e;cases e
     obtain⟨y,hy,_⟩:=hp;rw[h.kd k j] at hy;by_cases hm:k ∈ s.A.K j
     ·obtain⟨d,hd,_,_,g⟩:=(h.kk j k).1 hm;rw[h.ec k d hd] at hl;rw[h.leaf hd hl] at g;obtain⟨d',Qa,_,_,gq⟩:=(h.on k).1 (g.resolve_right (λe=>e rfl));exact⟨d,hd,hl,gq⟩
     ·rw[qI hm] at hy;cases hy
    | inner _ _ _ ih=>exact ih
   exact this 0 _ hk i rfl
  ·cases e
 obtain⟨c,hc,hl,hq⟩:=main;obtain⟨xs,P⟩:=h.lok.path hc;obtain⟨p,r,hpr⟩:∃p r,(s.e i).q=p::r:=by
  cases e:(s.e i).q with
  | nil=>exact ax e hq
  | cons p r=>exact⟨p,r,rfl⟩
 refine⟨c,xs,p,r,hc,hl,hpr,P,λhs=>?_⟩;have MW:=P.sh κf;have NJ:s.A.on i=true:=(h.on i).2 ⟨c,hc,hl,hs,hq⟩;obtain⟨g1,g2⟩:=jH (x:=0) MW (λq j _=>h.kk q j) (qD.1 P.nd).1 (λ_=>.inl NJ);refine⟨MW,P.ne,eO.2 (.inl NJ),λy hy=>?_⟩;rcases qC.1 hy with e|e
 ·rw[e];exact g2 P.ne
 ·exact g1 y e
end
theorem uZ {m:TM} {x:Int} (hx:x<Mc)(h:∀j q,m j=some q->x<q.2):x<fitT m:=by unfold fitT;exact ηk
theorem ry {m:TM} {x:Int} (hx:x<Mc)(h:∀j q,m j=some q->x<q.1):x<dw m:=by unfold dw;exact ηk
theorem yC {m:TM} {j:Int} {q:Int × Int} (h:m j=some q)(ex:∃v,ff m Mc v):dw m<=q.1:=by unfold dw;rw[dif_pos ex];exact(Classical.choose_spec ex).2.2 j q h
section
variable {s:SS} {now:Int}
theorem SS.Inv.idle (h:s.Inv)(hn:now<=4611686018427387904)(K8:SS.Choose s now none):now<min (dw s.lv) (fitT (s.kd 0)):=by
 have hm:min now Mb=now:=ρa;have chain:∀p r,SS.Chain s now p r->r=none->now<fitT (s.kd p):=by
  intro p r LD
  induction LD with
  | @none p hp=>intro _;exact uZ ρa (λj q hq=>by have:=hp.2 j q hq;omega)
  | leaf _ _=>intro e;cases e
  | @inner p j r hp hl _ ih=>
   intro e;exfalso;have g:=ih e;obtain⟨y,hy,hy2,_⟩:=hp;rw[h.kd j p] at hy;by_cases OF:j ∈ s.A.K p
   ·rw[qP OF] at hy;cases hy
    obtain⟨d,hd,_,_,ga⟩:=(h.kk p j).1 OF;have e2:s.fit j=max (s.e j).cp.t (fitT (s.kd j)):=by
     unfold SS.fit;rw[qI];rintro(w|w)
     ·rw[hl] at w;cases w
     ·rw[eO.2 ga] at w;cases w
    simp only[e2] at hy2;omega
   ·rw[qI OF] at hy;cases hy
 rcases K8 with ⟨_,_,e⟩|⟨he,⟨_,_,e⟩|⟨LD,_⟩⟩
 ·cases e
 ·cases e
 ·have h1:=chain 0 _ LD rfl;have h2:now<dw s.lv:=ry ρa (λj q hq=>by have:=he.2 j q hq;omega);omega
theorem SS.Inv.lvs (h:s.Inv) {j:Int} {c:CD} (hc:fc s.L j=some c)(hl:c.lf=true)(hr:SS.real c=true)(hq:(s.e j).q≠[]):s.lv j=some ((s.e j).du.e,(s.e j).du.t):=by have:=h.lv j;unfold SS.okl at this;rw[hc] at this;rw[this];exact qP ⟨hl,hr,hq⟩
theorem SS.Inv.lvn (h:s.Inv) {j:Int} {q:Int × Int} (hj:s.lv j=some q):∃c,fc s.L j=some c/\c.lf=true/\SS.real c=true/\(s.e j).q≠[]/\q=((s.e j).du.e,(s.e j).du.t):=by
 have:=h.lv j;unfold SS.okl at this;cases hc:fc s.L j with
 | none=>rw[hc] at this;rw[this] at hj;cases hj
 | some c=>
  rw[hc] at this;by_cases g:c.lf=true/\SS.real c=true/\(s.e j).q≠[]
  ·simp only[qP g] at this;rw[this] at hj;cases hj;exact⟨c,rfl,g.1,g.2.1,g.2.2,rfl⟩
  ·simp only[qI g] at this;rw[this] at hj;cases hj
theorem SS.Inv.byShare (h:s.Inv) {i:Int} (hn:now<=4611686018427387904)(K8:SS.Choose s now (some (i,false))):∀j c,fc s.L j=some c->c.lf=true->SS.real c=true->(s.e j).q≠[]->now<(s.e j).du.e:=by
 intro j c hc hl hr hq;have hv:=h.lvs hc hl hr hq;rcases K8 with ⟨_,_,e⟩|⟨he,_⟩
 ·cases e
 ·have:=he.2 j _ hv;simp only at this;omega
theorem SS.Inv.byReal (h:s.Inv) {i:Int} (hn:now<=4611686018427387904)(K8:SS.Choose s now (some (i,true))):(s.e i).du.e<=now/\(∃c,fc s.L i=some c/\c.lf=true/\SS.real c=true/\(s.e i).q≠[])/\∀j c,fc s.L j=some c->c.lf=true->SS.real c=true->(s.e j).q≠[]->(s.e j).du.e<=now->(s.e i).du.t<=(s.e j).du.t:=by
 have hm:min now Mb=now:=ρa;rcases K8 with ⟨k,hk,e⟩|⟨_,⟨_,_,e⟩|⟨_,e⟩⟩
 ·cases e
  obtain⟨y,hy,h1,h2⟩:=hk;obtain⟨c,hc,hl,hr,hq,rfl⟩:=h.lvn hy;rw[hm] at h1;refine⟨h1,⟨c,hc,hl,hr,hq⟩,λj d hd gl gr gq ge=>?_⟩;have:=h2 j _ (h.lvs hd gl gr gq) (by rw[hm];exact ge);simp only at this;omega
 ·cases e
 ·cases e
theorem SS.Inv.early (h:s.Inv)(ex:∃v,ff s.lv Mc v)(hd:now<min (dw s.lv) (fitT (s.kd 0))):∀j c,fc s.L j=some c->c.lf=true->SS.real c=true->(s.e j).q≠[]->now<(s.e j).du.e:=by intro j c hc hl hr hq;have:=yC (h.lvs hc hl hr hq) ex;simp only at this;omega
end
theorem sT {n:Int}:∀{xs:List Int} {s:SS} {j:Int},xs.Nodup->j ∈ xs->(xs.foldl (SS.take1 n) s).e j={s.e j with tot:=(s.e j).tot+n,sh:=(s.e j).sh.took ((s.e j).tot+n),cp:=(s.e j).cp.fit ((s.e j).tot+n)}
 | [],_,_,_,h=>by simp at h
 | x::r,s,j,hn,h=>by
  rw[qD] at hn;show (r.foldl (SS.take1 n) (s.take1 n x)).e j=_;by_cases hj:j=x
  ·subst hj;rw[iP hn.1];exact qP rfl
  ·have hr:j ∈ r:=(qC.1 h).resolve_left hj;rw[sT hn.2 hr,sS hj]
theorem mR (n:Int):∀(xs:List Int)(s:SS),(xs.foldl (SS.take1 n) s).T=s.T/\(xs.foldl (SS.take1 n) s).Lm=s.Lm/\(xs.foldl (SS.take1 n) s).clk=s.clk/\(xs.foldl (SS.take1 n) s).acc=s.acc
 | [],s=>⟨rfl,rfl,rfl,rfl⟩
 | x::r,s=>mR n r (s.take1 n x)
section
variable {s t:SS} {i:Int} {xs:List Int} {c:CD}
structure oU (s t:SS) (now i:Int) (b:Bool) (xs:List Int) (p:PK) (r:List PK):Prop where
 L:t.L=s.L
 T:t.T=s.T
 Lm:t.Lm=s.Lm
 clk:t.clk=now
 acc:t.acc=s.acc
 cc:∀j,(t.e j).c=(s.e j).c
 q:∀j,(t.e j).q=if j=i then r else (s.e j).q
 tot:∀j,(t.e j).tot=if j ∈ xs then (s.e j).tot+p.len else (s.e j).tot
 du:∀j,(t.e j).du=if j=i/\SS.real (s.e i).c=true then (if b then (s.e i).du.took p.len (aw r) else (s.e i).du.headed (aw r)) else (s.e j).du
 cp:∀j,(t.e j).cp=if j ∈ xs then (s.e j).cp.fit ((s.e j).tot+p.len) else (s.e j).cp
 sh:∀j,(t.e j).sh=CH.zero\/(t.e j).sh=if j ∈ xs then (s.e j).sh.took ((s.e j).tot+p.len) else (s.e j).sh
theorem xo (s:SS)(y j:Int):((s.sleep1 y).e j).sh=CH.zero\/((s.sleep1 y).e j).sh=(s.e j).sh:=by
 unfold SS.sleep1;dsimp only;split
 ·dsimp only;split
  ·exact .inl rfl
  ·exact .inr rfl
 ·exact .inr rfl
theorem oI:∀(ys:List Int)(s:SS)(j:Int),((ys.foldl SS.sleep1 s).e j).sh=CH.zero\/((ys.foldl SS.sleep1 s).e j).sh=(s.e j).sh
 | [],s,j=>.inr rfl
 | y::r,s,j=>by
  rcases oI r (s.sleep1 y) j with h|h
  ·exact .inl h
  ·rcases xo s y j with g|g
   ·exact .inl (h.trans g)
   ·exact .inr (h.trans g)
theorem uD (now:Int)(b:Bool) {p:PK} {r:List PK} (hq:(s.e i).q=p::r)(hi:i ∈ xs)(hn:xs.Nodup):oU s (s.take now i b xs) now i b xs p r:=by
 rw[pR hq];obtain⟨s0,MK⟩:=Nq (({s with clk:=now}:SS).setE i {s.e i with q:=r});have f0:s0.L=s.L/\s0.T=s.T/\s0.Lm=s.Lm/\s0.clk=now/\s0.acc=s.acc/\∀j,(s0.e j).c=(s.e j).c/\(s0.e j).q=(if j=i then r else (s.e j).q)/\(s0.e j).du=(s.e j).du/\(s0.e j).tot=(s.e j).tot/\(s0.e j).sh=(s.e j).sh/\(s0.e j).cp=(s.e j).cp:=by rw[<- MK];refine⟨rfl,rfl,rfl,rfl,rfl,λj=>?_⟩;unfold SS.setE ay;exact ηh
 rw[MK];obtain⟨a1,a2,a3,a4,a5,a6⟩:=f0;obtain⟨s1,Lv⟩:=Nq (xs.foldl (SS.take1 p.len) s0);have f1:=ie p.len xs s0;have m1:=mR p.len xs s0;have g1:∀j,(s1.e j).tot=(if j ∈ xs then (s.e j).tot+p.len else (s.e j).tot)/\(s1.e j).cp=(if j ∈ xs then (s.e j).cp.fit ((s.e j).tot+p.len) else (s.e j).cp)/\(s1.e j).sh=(if j ∈ xs then (s.e j).sh.took ((s.e j).tot+p.len) else (s.e j).sh):=λj=>by
  obtain⟨_,_,_,b4,b5,b6⟩:=a6 j;rw[<- Lv];by_cases hj:j ∈ xs
  ·rw[sT hn hj];simp only[qP hj,b4,b5,b6];exact⟨trivial,trivial,trivial⟩
  ·rw[iP hj];simp only[qI hj,b4,b5,b6];exact⟨trivial,trivial,trivial⟩
 rw[Lv] at f1 m1 ⊢;obtain⟨h1,_,_,_,h5⟩:=f1;obtain⟨d1,_,_,d4,d5,d6,d7,d8⟩:=mi (s:=s1) (i:=i) p.len b;have dd:((s1.due i p.len b).e i).du=if SS.real (s1.e i).c=true then (if b then (s1.e i).du.took p.len (aw (s1.e i).q) else (s1.e i).du.headed (aw (s1.e i).q)) else (s1.e i).du:=by
  unfold SS.due;split
  ·dsimp only;split<;>simp[SS.duesTo,SS.setE,ay]
  ·rfl
 obtain⟨s2,K6⟩:=Nq (s1.due i p.len b);rw[K6] at d1 d4 d5 d6 d7 d8 dd ⊢;have q2:∀j,(s2.e j).q=if j=i then r else (s.e j).q:=λj=>by rw[(d4 j).2.1,(h5 j).2.1,(a6 j).2.1]
 have hdu:∀j,(s2.e j).du=if j=i/\SS.real (s.e i).c=true then (if b then (s.e i).du.took p.len (aw r) else (s.e i).du.headed (aw r)) else (s.e j).du:=λj=>by
  by_cases hj:j=i
  ·subst hj;rw[dd,(h5 j).1,(a6 j).1,(h5 j).2.1,(a6 j).2.1,qP rfl,(h5 j).2.2,(a6 j).2.2.1];simp only[true_and]
  ·rw[qI (λg=>hj g.1),((d4 j).2.2.2.2.2 hj).1,(h5 j).2.2,(a6 j).2.2.1]
 have Ov:oU s s2 now i b xs p r:=⟨d1.trans (h1.trans a1),d7.trans (m1.1.trans a2),d8.trans (m1.2.1.trans a3),d5.trans (m1.2.2.1.trans a4),d6.trans (m1.2.2.2.trans a5),λj=>by rw[(d4 j).1,(h5 j).1,(a6 j).1],q2,λj=>by rw[(d4 j).2.2.2.2.1,(g1 j).1],hdu,λj=>by rw[(d4 j).2.2.2.1,(g1 j).2.1],λj=>.inr (by rw[(d4 j).2.2.1,(g1 j).2.2])⟩;obtain⟨s3,NK⟩:=Nq (if (s2.e i).q=[] then s2.sleep i xs else s2);have Nd:oU s s3 now i b xs p r:=by
  rw[<- NK];split
  ·unfold SS.sleep;split
   ·obtain⟨z1,_,_,z4,_,_,z7,z8,z9,z10⟩:=iJ (aS s2.A.K xs).1 {s2 with A:=⟨ay s2.A.on i false,(aS s2.A.K xs).2⟩};refine⟨z1.trans Ov.L,z9.trans Ov.T,z10.trans Ov.Lm,z7.trans Ov.clk,z8.trans Ov.acc,λj=>(z4 j).1.trans (Ov.cc j),λj=>(z4 j).2.1.trans (Ov.q j),λj=>(z4 j).2.2.2.2.trans (Ov.tot j),λj=>(z4 j).2.2.2.1.trans (Ov.du j),λj=>(z4 j).2.2.1.trans (Ov.cp j),λj=>?_⟩;rcases oI (aS s2.A.K xs).1 {s2 with A:=⟨ay s2.A.on i false,(aS s2.A.K xs).2⟩} j with g|g
    ·exact .inl g
    ·rcases Ov.sh j with w|w
     ·exact .inl (g.trans w)
     ·exact .inr (g.trans w)
   ·exact Ov
  ·exact Ov
 rw[NK];obtain⟨y1,y2,_,_,y5,y6,y7,y8⟩:=fU s3 xs;exact⟨y1.trans Nd.L,y7.trans Nd.T,y8.trans Nd.Lm,y5.trans Nd.clk,y6.trans Nd.acc,λj=>by rw[y2];exact Nd.cc j,λj=>by rw[y2];exact Nd.q j,λj=>by rw[y2];exact Nd.tot j,λj=>by rw[y2];exact Nd.du j,λj=>by rw[y2];exact Nd.cp j,λj=>by rw[y2];exact Nd.sh j⟩
structure jq (s t:SS) (now i:Int) (xs:List Int) (p:PK) (c:CD):Prop where
 L:t.L=s.L
 T:t.T=s.T
 Lm:t.Lm=s.Lm
 clk:t.clk=now
 acc:t.acc=s.acc+p.len
 cc:∀j,(t.e j).c=(s.e j).c
 q:∀j,(t.e j).q=if j=i then (s.e i).q++[p] else (s.e j).q
 tot:∀j,(t.e j).tot=(s.e j).tot
 du:∀j,(t.e j).du=if j=i/\(s.e i).q=[]/\SS.real c=true then ((s.e i).du.woke c.r0 c.r1 c.r2 now).headed p.len else (s.e j).du
 sh:∀j,(t.e j).sh=(s.e j).sh\/j ∈ xs/\(t.e j).sh=(s.e j).sh.wake (s.e j).c.l0 (s.e j).c.l1 (s.e j).c.l2 (kD (s.kd (s.e j).c.par)) (s.e j).tot
 cls:fc s.L i=some c/\c.lf=true
 len:1<=p.len/\p.len<=s.Lm
 told:s.clk<=now/\now<=4611686018427387904
 more:s.acc+p.len<=1099511627776
theorem td (now:Int):∀(ys:List Int)(s:SS)(j:Int),((ys.foldl (SS.wake1 now) s).e j).sh=(s.e j).sh\/j ∈ ys/\(ys.Nodup->((ys.foldl (SS.wake1 now) s).e j).sh=(s.e j).sh.wake (s.e j).c.l0 (s.e j).c.l1 (s.e j).c.l2 (kD (s.kd (s.e j).c.par)) (s.e j).tot)
 | [],s,j=>.inl rfl
 | y::r,s,j=>by
  have g:(s.wake1 now y).kd=s.kd/\((s.wake1 now y).e j).c=(s.e j).c/\((s.wake1 now y).e j).tot=(s.e j).tot/\(j≠y->(s.wake1 now y).e j=s.e j)/\(j=y->((s.wake1 now y).e j).sh=(s.e j).sh.wake (s.e j).c.l0 (s.e j).c.l1 (s.e j).c.l2 (kD (s.kd (s.e j).c.par)) (s.e j).tot):=by
   unfold SS.wake1 SS.setE ay;simp only[];by_cases hj:j=y
   ·subst hj;simp
   ·simp[hj]
  obtain⟨g1,g2,g3,g4,g5⟩:=g;simp only[List.foldl_cons];by_cases hj:j=y
  ·right;refine⟨by simp[hj],λhn=>?_⟩;rw[qD] at hn;have:=(i7 now r (s.wake1 now y)).2.2.2.2.1 j;rw[this.2.2.2.2 (by rw[hj];exact hn.1),g5 hj]
  ·rcases td now r (s.wake1 now y) j with h|⟨h1,h2⟩
   ·exact .inl (by rw[h,g4 hj])
   ·right;refine⟨qb _ h1,λhn=>?_⟩;rw[h2 (qD.1 hn).2,g1,g4 hj]
theorem mz:∀{xs:List Int} {K:Int->List Int},xs.Nodup->(bo K xs).1.Nodup
 | [],_,h=>h
 | [i],_,h=>h
 | i::p::r,K,h=>by
  rw[qD] at h;unfold bo;split
  ·exact qD.2 ⟨λg=>h.1 (iE i g),mz h.2⟩
  ·simp
theorem bY {now n:Int} {p:PK} {s':SS} (ec:∀i c,fc s.L i=some c->(s.e i).c=c)(hn:xs.Nodup)(e:s.put now i p xs=(n,s')):(n≠0/\(s'=s\/s'={s with clk:=now}/\s.clk<=now/\now<=4611686018427387904))\/(n=0/\∃c,jq s s' now i xs p c):=by
 unfold SS.put at e;split at e
 ·cases e;exact .inl ⟨by simp,.inl rfl⟩
 ·rename_i UY;have tl:s.clk<=now/\now<=4611686018427387904:=by simpa [SS.told] using UY
  have no:∀k:Int,k≠0->(k,({s with clk:=now}:SS))=(n,s')->(n≠0/\(s'=s\/s'={s with clk:=now}/\s.clk<=now/\now<=4611686018427387904))\/(n=0/\∃c,jq s s' now i xs p c):=λk hk e=>by cases e;exact .inl ⟨hk,.inr ⟨rfl,tl⟩⟩
  cases hc:fc s.L i with
  | none=>simp only[hc] at e;exact no 23 ρa e
  | some c=>
   simp only[hc] at e;by_cases g1:c.lf=false
   ·rw[qP g1] at e;exact no 29 ρa e
   rw[qI g1] at e;split at e
   ·exact no 26 ρa e
   rename_i g2;split at e
   ·exact no 28 ρa e
   rename_i g3;split at e
   ·exact no 30 ρa e
   right;have KU:=ec i c hc;have ln:1<=p.len/\p.len<=s.Lm:=by simp only[not_or,Int.not_lt] at g2;exact g2
   split at e
   ·rename_i hq;have hq:(s.e i).q=[]:=hq;obtain⟨rfl,rfl⟩:=Prod.mk.inj e;refine⟨rfl,c,?_⟩;obtain⟨s1,Lv⟩:=Nq ({({s with clk:=now}:SS).setE i {s.e i with q:=(s.e i).q++[p]} with acc:=s.acc+p.len}:SS);have f1:s1.L=s.L/\s1.T=s.T/\s1.Lm=s.Lm/\s1.clk=now/\s1.acc=s.acc+p.len/\s1.kd=s.kd/\∀j,(s1.e j).c=(s.e j).c/\(s1.e j).q=(if j=i then (s.e i).q++[p] else (s.e j).q)/\(s1.e j).du=(s.e j).du/\(s1.e j).tot=(s.e j).tot/\(s1.e j).sh=(s.e j).sh:=by
     rw[<- Lv];refine⟨rfl,rfl,rfl,rfl,rfl,rfl,λj=>?_⟩;unfold SS.setE ay;exact ηh
    suffices key:jq s (s1.wake now i p.len xs) now i xs p c by rw[<- Lv] at key;exact key
    clear Lv;obtain⟨a1,a2,a3,a4,a5,a6,a7⟩:=f1;unfold SS.wake;simp only[];rw[show (s1.e i).c=c from(a7 i).1.trans KU];obtain⟨s2,K6⟩:=Nq (if SS.real c then s1.duesTo i (((s1.e i).du.woke c.r0 c.r1 c.r2 now).headed p.len) else s1);have Ov:s2.L=s1.L/\s2.T=s1.T/\s2.Lm=s1.Lm/\s2.clk=s1.clk/\s2.acc=s1.acc/\s2.kd=s1.kd/\∀j,(s2.e j).c=(s1.e j).c/\(s2.e j).q=(s1.e j).q/\(s2.e j).tot=(s1.e j).tot/\(s2.e j).sh=(s1.e j).sh/\(s2.e j).du=if j=i/\SS.real c=true then ((s1.e i).du.woke c.r0 c.r1 c.r2 now).headed p.len else (s1.e j).du:=by
     rw[<- K6];split
     ·rename_i hr;refine⟨rfl,rfl,rfl,rfl,rfl,rfl,λj=>?_⟩;unfold SS.duesTo SS.setE ay;simp only[];by_cases hj:j=i
      ·subst hj;simp[hr]
      ·simp[hj]
     ·rename_i hr;refine⟨rfl,rfl,rfl,rfl,rfl,rfl,λj=>⟨rfl,rfl,rfl,rfl,?_⟩⟩;rw[qI (λg=>hr g.2)]
    rw[K6];obtain⟨b1,b2,b3,b4,b5,b6,b7⟩:=Ov;have base:jq s s2 now i xs p c:=⟨b1.trans a1,b2.trans a2,b3.trans a3,b4.trans a4,b5.trans a5,λj=>(b7 j).1.trans (a7 j).1,λj=>(b7 j).2.1.trans (a7 j).2.1,λj=>(b7 j).2.2.1.trans (a7 j).2.2.2.1,λj=>by rw[(b7 j).2.2.2.2,(a7 i).2.2.1,(a7 j).2.2.1];simp[hq],λj=>.inl ((b7 j).2.2.2.1.trans (a7 j).2.2.2.2),⟨hc,by simpa using g1⟩,ln,tl,by have g3:¬1099511627776<s.acc+p.len:=g3;omega⟩;split
    ·unfold SS.wakeS;obtain⟨z1,_,_,_,z5,z6,z7,z8,z9⟩:=i7 now (bo s2.A.K xs).1 {s2 with A:=⟨ay s2.A.on i true,(bo s2.A.K xs).2⟩};obtain⟨y1,y2,_,_,y5,y6,y7,y8⟩:=fU ((bo s2.A.K xs).1.foldl (SS.wake1 now) {s2 with A:=⟨ay s2.A.on i true,(bo s2.A.K xs).2⟩}) xs;refine⟨y1.trans (z1.trans base.L),y7.trans (z8.trans base.T),y8.trans (z9.trans base.Lm),y5.trans (z6.trans base.clk),y6.trans (z7.trans base.acc),λj=>by rw[y2];exact(z5 j).1.trans (base.cc j),λj=>by rw[y2];exact(z5 j).2.1.trans (base.q j),λj=>by rw[y2];exact(z5 j).2.2.2.1.trans (base.tot j),λj=>by rw[y2];exact(z5 j).2.2.1.trans (base.du j),λj=>?_,base.cls,base.len,base.told,base.more⟩;rw[y2];rcases td now (bo s2.A.K xs).1 {s2 with A:=⟨ay s2.A.on i true,(bo s2.A.K xs).2⟩} j with g|⟨g1,g2⟩
     ·exact .inl (g.trans ((b7 j).2.2.2.1.trans (a7 j).2.2.2.2))
     ·right;refine⟨iE j g1,(g2 (mz hn)).trans ?_⟩;show (s2.e j).sh.wake (s2.e j).c.l0 (s2.e j).c.l1 (s2.e j).c.l2 (kD (s2.kd (s2.e j).c.par)) (s2.e j).tot=_;rw[(b7 j).1,(b7 j).2.2.1,(b7 j).2.2.2.1,b6,a6,(a7 j).1,(a7 j).2.2.2.1,(a7 j).2.2.2.2]
    ·exact base
   ·rename_i hq;have hq:¬(s.e i).q=[]:=hq;obtain⟨rfl,rfl⟩:=Prod.mk.inj e;refine⟨rfl,c,rfl,rfl,rfl,rfl,rfl,λj=>?_,λj=>?_,λj=>?_,λj=>?_,λj=>.inl ?_,⟨hc,by simpa using g1⟩,ln,tl,by have g3:¬1099511627776<s.acc+p.len:=g3;omega⟩<;>
    ·unfold SS.setE ay;simp only[];by_cases hj:j=i
     ·subst hj;simp[hq]
     ·simp[hj]
end
def CH.low (c:CH):Prop:=c.r.ok/\c.r.f.X<=Mc/\c.r.t.X<=Mc/\0<=c.t/\c.t<=Mc
theorem CH.low_zero:CH.zero.low:=by unfold CH.low CH.zero RN.ok LN.ok ai;simp
theorem jO {r:RN} (h:r.ok)(h1:r.f.X<=Mc)(h2:r.t.X<=Mc)(p:Int):0<=r.time p/\r.time p<=Mc:=by have h3:=RN.reach_rng h (p*65536);have h4:=h.1.1;have h5:=h.2.1;unfold RN.time;split<;>omega
theorem Dj {a b:LN} {N:Int} (ha:a.X<=N)(hb:b.X<=N):(LN.low a b).X<=N:=by unfold LN.low;split<;>assumption
theorem Cv {m d n x y N:Int} (h4:kd m d n≠4)(hx:x<=N)(h0:0<=N):(RN.start m d n x y).f.X<=N/\(RN.start m d n x y).t.X<=N:=by
 unfold RN.start;rw[qI h4];unfold RN.ready;split
 ·exact⟨h0,hx⟩
 ·split
  ·exact⟨hx,hx⟩
  ·exact⟨h0,hx⟩
theorem CH.low_wake {c:CH} {m d n low p:Int} (h:c.low)(hc:dk m d n)(h4:kd m d n≠4)(hl:0<=low/\low<=Mc)(hp:0<=p/\p<=2199023255552):(c.wake m d n low p).low:=by
 obtain⟨h1,h2,h3,_⟩:=h;obtain⟨_,hm,hd,hn⟩:=hc;have s1:(RN.start m d n low (p*65536)).ok:=RN.start_ok ρa hd.1 ρa hl ρz;obtain⟨s2,s3⟩:=Cv (m:=m) (d:=d) (n:=n) (x:=low) (y:=p*65536) h4 hl.2 ρa;have key:∀r:RN,r.ok->r.f.X<=Mc->r.t.X<=Mc->CH.low ⟨true,r,r.time p⟩:=λr g1 g2 g3=>⟨g1,g2,g3,(jO g1 g2 g3 p).1,(jO g1 g2 g3 p).2⟩;unfold CH.wake;split
 ·refine key _ (RN.meet_ok h1 s1) ?_ (Dj h3 s3);unfold RN.meet;simp only[];split
  ·exact Dj h2 s2
  ·exact(by decide:(0:Int)<=Mc)
 ·exact key _ s1 s2 s3
theorem CH.low_took {c:CH} {p:Int} (h:c.low):(c.took p).low:=by
 unfold CH.took;split
 ·exact⟨h.1,h.2.1,h.2.2.1,(jO h.1 h.2.1 h.2.2.1 p).1,(jO h.1 h.2.1 h.2.2.1 p).2⟩
 ·exact h
def SS.ids (s:SS):List Int:=s.L.map CD.id
def SS.bys (s:SS):Int:=cW (λi=>aA (s.e i).q) s.ids
def SS.pks (s:SS):Int:=cW (λi=>((s.e i).q.length:Int)) s.ids
theorem dQ (a b:List PK):aA (a++b)=aA a+aA b:=by
 induction a with
 | nil=>simp[aA]
 | cons x r ih=>simp only[List.cons_append,aA,ih];omega
theorem lW {q:List PK} (h:∀p ∈ q,0<=p.len):0<=aA q:=by
 induction q with
 | nil=>simp[aA]
 | cons x r ih=>have h1:=h x ρp;have h2:=ih (λp hp=>h p (by simp[hp]));simp only[aA];omega
theorem iO {f:Int->Int}:∀{R:List Int},(∀i ∈ R,0<=f i)->0<=cW f R
 | [],_=>qJ _
 | i::r,h=>by have h1:=h i ρp;have h2:=iO (R:=r) (λj hj=>h j (by simp[hj]));simp only[cW];omega
structure SS.Num (s:SS):Prop where
 nd:s.ids.Nodup
 cin:∀c ∈ s.L,dk c.r0 c.r1 c.r2/\dk c.l0 c.l1 c.l2/\Go.Proofs.YtfdlemkplejdnaaGreat.kd c.l0 c.l1 c.l2≠4
 lm:1<=s.Lm/\s.Lm<=16384
 clk:0<=s.clk/\s.clk<=4611686018427387904
 acc:0<=s.acc/\s.acc<=1099511627776
 tot:∀i c,fc s.L i=some c->0<=(s.e i).tot/\(s.e i).tot+s.bys<=s.acc
 pk:∀i c,fc s.L i=some c->∀p ∈ (s.e i).q,1<=p.len/\p.len<=s.Lm
 sh:∀i c,fc s.L i=some c->(s.e i).sh.low
section
variable {s t:SS} {i:Int} {xs:List Int} {c:CD} {p:PK} {r:List PK} {now:Int} {b:Bool}
theorem gO {L:List CD} (h:nh L) {i:Int}:i ∈ L.map CD.id↔∃c,fc L i=some c:=by
 constructor
 ·intro hi;obtain⟨c,hc,rfl⟩:=List.mem_map.1 hi;exact⟨c,h.ids c hc⟩
 ·rintro⟨c,hc⟩;exact List.mem_map.2 ⟨c,(fH hc).1,(fH hc).2⟩
theorem SS.Num.vt (N:s.Num)(h:s.Inv):∀p j q,s.kd p j=some q->0<=q.1/\q.1<=Mc:=by
 intro p j q hq;rw[h.kd j p] at hq;by_cases hm:j ∈ s.A.K p
 ·rw[qP hm] at hq;cases hq
  obtain⟨d,hd,_⟩:=(h.kk p j).1 hm;exact(N.sh j d hd).2.2.2
 ·rw[qI hm] at hq;cases hq
theorem SS.Num.bys_nonneg (N:s.Num)(h:s.Inv):0<=s.bys:=by unfold SS.bys;refine iO λj hj=>lW λp hp=>?_;obtain⟨d,hd⟩:=(gO h.lok).1 hj;have:=N.pk j d hd p hp;omega
theorem oU.bys (h:oU s t now i b xs p r)(N:s.Num)(hi:i ∈ s.ids)(hq:(s.e i).q=p::r):s.bys=t.bys+p.len/\s.pks=t.pks+1:=by
 have e:t.ids=s.ids:=by unfold SS.ids;rw[h.L]
 unfold SS.bys SS.pks;rw[e];constructor
 ·refine fz N.nd hi (λj _ hj=>?_) ?_
  ·rw[h.q j,qI hj]
  ·rw[h.q i,qP rfl,hq];simp only[aA];omega
 ·refine fz N.nd hi (λj _ hj=>?_) ?_
  ·rw[h.q j,qI hj]
  ·rw[h.q i,qP rfl,hq];simp
theorem oU.num (h:oU s t now i b xs p r)(N:s.Num)(I:s.Inv)(hc:fc s.L i=some c)(hq:(s.e i).q=p::r)(hnow:s.clk<=now/\now<=4611686018427387904):t.Num:=by
 have hi:i ∈ s.ids:=(gO I.lok).2 ⟨c,hc⟩;obtain⟨e1,_⟩:=h.bys N hi hq;have hp:=N.pk i c hc p (by rw[hq];simp);have hN:=N.clk;refine⟨by unfold SS.ids;rw[h.L];exact N.nd,by rw[h.L];exact N.cin,by rw[h.Lm];exact N.lm,by rw[h.clk];omega,by rw[h.acc];exact N.acc,λj d hd=>?_,λj d hd q Ty=>?_,λj d hd=>?_⟩
 ·rw[h.L] at hd;have:=N.tot j d hd;rw[h.tot,h.acc];split<;>omega
 ·rw[h.L] at hd;rw[h.q] at Ty;rw[h.Lm];split at Ty
  ·rename_i e;subst e;exact N.pk j d hd q (by rw[hq];simp[Ty])
  ·exact N.pk j d hd q Ty
 ·rw[h.L] at hd;rcases h.sh j with g|g
  ·rw[g];exact CH.low_zero
  ·rw[g];split
   ·exact CH.low_took (N.sh j d hd)
   ·exact N.sh j d hd
theorem jq.bys (h:jq s t now i xs p c)(N:s.Num)(hi:i ∈ s.ids):t.bys=s.bys+p.len/\t.pks=s.pks+1:=by
 have e:t.ids=s.ids:=by unfold SS.ids;rw[h.L]
 unfold SS.bys SS.pks;rw[e];constructor
 ·refine fz N.nd hi (λj _ hj=>?_) ?_
  ·rw[h.q j,qI hj]
  ·rw[h.q i,qP rfl,dQ];simp only[aA];omega
 ·refine fz N.nd hi (λj _ hj=>?_) ?_
  ·rw[h.q j,qI hj]
  ·rw[h.q i,qP rfl];simp
theorem jq.num (h:jq s t now i xs p c)(N:s.Num)(I:s.Inv)(hx:∀y ∈ xs,∃d,fc s.L y=some d):t.Num:=by
 have hc:=h.cls.1;have hi:i ∈ s.ids:=(gO I.lok).2 ⟨c,hc⟩;obtain⟨e1,_⟩:=h.bys N hi;have hp:=h.len;have hm:=h.more;have ht:=h.told;have hN:=N.clk;have hA:=N.acc;have hb:=N.bys_nonneg I;refine⟨by unfold SS.ids;rw[h.L];exact N.nd,by rw[h.L];exact N.cin,by rw[h.Lm];exact N.lm,by rw[h.clk];omega,by rw[h.acc];omega,λj d hd=>?_,λj d hd q Ty=>?_,λj d hd=>?_⟩
 ·rw[h.L] at hd;have:=N.tot j d hd;rw[h.tot,h.acc];omega
 ·rw[h.L] at hd;rw[h.q] at Ty;rw[h.Lm];split at Ty
  ·rename_i e;subst e;rcases qM.1 Ty with g|g
   ·exact N.pk j d hd q g
   ·simp at g;rw[g];exact hp
  ·exact N.pk j d hd q Ty
 ·rw[h.L] at hd;rcases h.sh j with g|⟨hjx,g⟩
  ·rw[g];exact N.sh j d hd
  ·rw[g,I.ec j d hd];have P':=N.cin d (fH hd).1;have Zd:=N.tot j d hd;exact CH.low_wake (N.sh j d hd) P'.2.1 P'.2.2 (rt (λk q hq=>N.vt I _ _ _ hq)) ρa
theorem SS.Num.told (N:s.Num)(h:s.clk<=now/\now<=4611686018427387904):({s with clk:=now}:SS).Num:=⟨N.nd,N.cin,N.lm,by have:=N.clk;show 0<=now/\now<=_;omega,N.acc,N.tot,N.pk,N.sh⟩
end
structure EV where
 (op:Int)
 (inn real:Bool)
 (at_ done cls:Int)
 (pk:PK)
structure YS where
 (s:SS)
 (til clk:Int)
 (ev:List EV)
noncomputable def YS.due (y:YS):Int:=min (dw y.s.lv) (fitT (y.s.kd 0))
noncomputable def YS.next (y:YS):Int:=max y.clk (max y.til y.due)
inductive fW (op:Int) (y:YS):YS->Prop
 | busy:y.clk<y.til->fW op y y
 | idle:y.til<=y.clk->SS.Choose {y.s with clk:=y.clk} y.clk none->fW op y {y with s:={y.s with clk:=y.clk}}
 | pick {i:Int} {x:Bool} {c:CD} {xs:List Int} {p:PK} {r:List PK}:y.til<=y.clk->SS.Choose {y.s with clk:=y.clk} y.clk (some (i,x))->fc y.s.L i=some c->(y.s.e i).q=p::r->dB y.s.L i xs->fW op y ⟨y.s.take y.clk i x xs,y.clk+y.s.T*p.len,y.clk,y.ev++[⟨op,false,x,y.clk,y.clk+y.s.T*p.len,i,p⟩]⟩
inductive cf (op stop:Int):YS->YS->Prop
 | done {y:YS}:stop<y.next->cf op stop y {y with clk:=stop}
 | next {y z t:YS}:y.next<=stop->fW op {y with clk:=y.next} z->cf op stop z t->cf op stop y t
inductive lD (op:Int) (y:YS):YS->Prop
 | nothing:lD op y y
 | refused {i n:Int} {p:PK} {xs:List Int} {s':SS}:xs.Nodup->y.s.put y.clk i p xs=(n,s')->n≠0->lD op y {y with s:=s'}
 | packet {i:Int} {p:PK} {xs:List Int} {s':SS} {z:YS}:(∀c,fc y.s.L i=some c->ld y.s.L i xs)->y.s.put y.clk i p xs=(0,s')->fW op {y with s:=s',ev:=y.ev++[⟨op,true,false,y.clk,0,i,p⟩]} z->lD op y z
 | adv {stop:Int} {z:YS}:y.clk<=stop->stop<=4611686018427387904->cf op stop y z->lD op y z
structure YS.Ok0 (y:YS):Prop where
 inv:y.s.Inv
 num:y.s.Num
 clk:y.s.clk<=y.clk/\0<=y.clk/\y.clk<=4611686018427387904
 tt:1<=y.s.T/\y.s.T<=65536
 til:0<=y.til/\y.til<=4611686019501129728
structure YS.Ok (y:YS):Prop extends y.Ok0 where
 idle:y.til<=y.clk->y.clk<y.due
theorem xD {L:List CD} (h:nh L) {i:Int} {c:CD} {xs:List Int} (hc:fc L i=some c)(hu:dB L i xs):ld L i xs:=by obtain⟨ys,P⟩:=h.path hc;rw[jQ hu P.up];exact P
theorem vq {T l:Int} (hT:1<=T/\T<=65536)(hl:1<=l/\l<=16384):1<=T*l/\T*l<=1073741824:=by have h1:1*1<=T*l:=Int.mul_le_mul hT.1 hl.1 ρa ρa;have h2:T*l<=65536*16384:=Int.mul_le_mul hT.2 hl.2 ρa ρa;omega
section
variable {op:Int} {y z:YS}
theorem YS.Ok0.told (h:y.Ok0):({y.s with clk:=y.clk}:SS).Inv/\({y.s with clk:=y.clk}:SS).Num:=⟨h.inv.clk _,h.num.told ⟨h.clk.1,h.clk.2.2⟩⟩
theorem YS.Ok0.pick {i:Int} {x:Bool} {c:CD} {xs:List Int} {p:PK} {r:List PK} (h:y.Ok0)(K8:SS.Choose {y.s with clk:=y.clk} y.clk (some (i,x)))(hc:fc y.s.L i=some c)(hq:(y.s.e i).q=p::r)(hu:dB y.s.L i xs):ld y.s.L i xs/\c.lf=true/\oU y.s (y.s.take y.clk i x xs) y.clk i x xs p r/\(y.s.take y.clk i x xs).Inv/\(y.s.take y.clk i x xs).Num/\(1<=p.len/\p.len<=y.s.Lm)/\(1<=y.s.T*p.len/\y.s.T*p.len<=1073741824):=by have P:=xD h.inv.lok hc hu;obtain⟨d,_,_,_,hd,hl,_⟩:=h.told.1.chosen K8;have hd:fc y.s.L i=some d:=hd;rw[hc] at hd;cases hd;have T:=uD y.clk x hq P.hd (qD.1 P.nd).2;have hp:=h.num.pk i c hc p (by rw[hq];simp);have hL:=h.num.lm;exact⟨P,hl,T,h.inv.take hc hl hq P,T.num h.num h.inv hc hq ⟨h.clk.1,h.clk.2.2⟩,hp,vq h.tt ⟨hp.1,by omega⟩⟩
theorem fW.ok (hp:fW op y z)(h:y.Ok0):z.Ok/\z.clk=y.clk/\z.s.L=y.s.L/\z.s.T=y.s.T/\z.s.Lm=y.s.Lm:=by
 cases hp with
 | busy hb=>exact⟨⟨h,λg=>by omega⟩,rfl,rfl,rfl,rfl⟩
 | idle hb K8=>obtain⟨I,N⟩:=h.told;refine⟨⟨⟨I,N,⟨qJ _,h.clk.2⟩,h.tt,h.til⟩,λ_=>I.idle h.clk.2.2 K8⟩,rfl,rfl,rfl,rfl⟩
 | pick hb K8 hc hq hu=>obtain⟨P,hl,T,I,N,hp,ht⟩:=h.pick K8 hc hq hu;have h1:=h.clk;refine⟨⟨⟨I,N,⟨by show SS.clk _<=_;rw[T.clk];exact qJ _,h.clk.2⟩,by show 1<=SS.T _/\SS.T _<=_;rw[T.T];exact h.tt,by simp only[];omega⟩,λg=>by simp only[] at g;omega⟩,rfl,T.L,T.T,T.Lm⟩
theorem YS.Ok.at_next (h:y.Ok) {stop:Int} (hs:stop<=4611686018427387904)(hn:y.next<=stop):({y with clk:=y.next}:YS).Ok0:=by
 have h1:=h.clk;have:y.clk<=y.next:=by unfold YS.next;omega
 exact⟨h.inv,h.num,⟨by simp only[];omega,by simp only[];omega,by simp only[];omega⟩,h.tt,h.til⟩
theorem cf.ok {stop:Int} (hr:cf op stop y z)(h:y.Ok)(hs:stop<=4611686018427387904)(h0:y.clk<=stop):z.Ok/\z.clk=stop/\z.s.L=y.s.L/\z.s.T=y.s.T/\z.s.Lm=y.s.Lm:=by
 induction hr with
 | @done y hn=>have h1:=h.clk;refine⟨⟨⟨h.inv,h.num,⟨by simp only[];omega,by simp only[];omega,hs⟩,h.tt,h.til⟩,λg=>?_⟩,rfl,rfl,rfl,rfl⟩;have g:y.til<=stop:=g;show stop<y.due;unfold YS.next at hn;omega
 | @next y z t hn hp _ ih=>have h1:=h.clk;have ha:=h.at_next hs hn;obtain⟨g1,g2,g3,g4,g5⟩:=hp.ok ha;obtain⟨k1,k2,k3,k4,k5⟩:=ih g1 (by rw[g2];exact hn);exact⟨k1,k2,k3.trans g3,k4.trans g4,k5.trans g5⟩
theorem lD.ok (hs:lD op y z)(h:y.Ok):z.Ok/\y.clk<=z.clk/\z.s.L=y.s.L/\z.s.T=y.s.T/\z.s.Lm=y.s.Lm:=by
 cases hs with
 | nothing=>exact⟨h,qJ _,rfl,rfl,rfl⟩
 | refused hn e KI=>
  rcases bY h.inv.ec hn e with ⟨_,rfl|⟨rfl,_⟩⟩|⟨g,_⟩
  ·exact⟨h,qJ _,rfl,rfl,rfl⟩
  ·obtain⟨I,N⟩:=h.told;exact⟨⟨⟨I,N,⟨qJ _,h.clk.2⟩,h.tt,h.til⟩,h.idle⟩,qJ _,rfl,rfl,rfl⟩
  ·exact ax g KI
 | @packet i p xs s' z hP e hp=>
  have I:=h.inv.put hP e;have hn:xs.Nodup\/fc y.s.L i=none:=by
   cases hc:fc y.s.L i with
   | none=>exact .inr rfl
   | some c=>exact ηO
  rcases hn with hn|hn
  ·rcases bY h.inv.ec hn e with ⟨g,_⟩|⟨_,c,F⟩
   ·exact ax rfl g
   ·have P:=hP c F.cls.1;refine δd ?_;intro N O;obtain⟨g1,g2,g3,g4,g5⟩:=hp.ok O;exact⟨g1,by rw[g2];exact qJ _,g3.trans F.L,g4.trans F.T,g5.trans F.Lm⟩
  ·exact ηb
 | adv h0 h1 hr=>obtain⟨g1,g2,g3⟩:=hr.ok h h1 h0;exact⟨g1,by rw[g2];exact h0,g3⟩
end
def dK (i:Int)(e:EV):Bool:=e.inn && decide (e.cls=i)
def dy (i:Int)(e:EV):Bool:=!e.inn && decide (e.cls=i)
def ins (i:Int)(l:List EV):List PK:=(l.filter (dK i)).map EV.pk
def bC (i:Int)(l:List EV):List PK:=(l.filter (dy i)).map EV.pk
theorem cU (i:Int)(a b:List EV):ins i (a++b)=ins i a++ins i b:=by simp[ins]
theorem cI (i:Int)(a b:List EV):bC i (a++b)=bC i a++bC i b:=by simp[bC]
theorem bp (i:Int)(e:EV)(l:List EV):ins i (e::l)=if dK i e=true then e.pk::ins i l else ins i l:=by unfold ins;rw[List.filter_cons];split<;>rfl
theorem bQ (i:Int)(e:EV)(l:List EV):bC i (e::l)=if dy i e=true then e.pk::bC i l else bC i l:=by unfold bC;rw[List.filter_cons];split<;>rfl
theorem dW {i:Int} {e:EV}:dK i e=true↔e.inn=true/\e.cls=i:=by simp[dK]
theorem dI {i:Int} {e:EV}:dy i e=true↔e.inn=false/\e.cls=i:=by simp[dy]
theorem fu {i:Int} {e:EV} (h:dK i e=true):dy i e=false:=by rw[dW] at h;simp[dy,h.1]
theorem mq {i:Int} {e:EV} (h:dy i e=true):dK i e=false:=by rw[dI] at h;simp[dK,h.1]
theorem tQ {i:Int} {p:PK} {y:List PK}:∀{l:List EV} {x:List PK},ins i l=x++p::y->∃l1 e l2,l=l1++e::l2/\dK i e=true/\e.pk=p/\ins i l1=x
 | [],x,h=>by simp[ins] at h
 | e::l,x,h=>by
  rw[bp] at h;by_cases he:dK i e=true
  ·rw[qP he] at h;cases x with
   | nil=>exact⟨[],e,l,rfl,he,(List.cons.inj h).1,rfl⟩
   | cons z x=>obtain⟨h1,h2⟩:=List.cons.inj h;obtain⟨l1,e',l2,rfl,g2,g3,g4⟩:=tQ h2;exact⟨e::l1,e',l2,rfl,g2,g3,by rw[bp,qP he,g4,h1]⟩
  ·rw[qI he] at h;obtain⟨l1,e',l2,rfl,g2,g3,g4⟩:=tQ h;exact⟨e::l1,e',l2,rfl,g2,g3,by rw[bp,qI he,g4]⟩
theorem vh {i:Int} {l:List EV} {p:PK} (h:p ∈ ins i l):∃e ∈ l,e.inn=true/\e.pk=p:=by obtain⟨e,he,rfl⟩:=List.mem_map.1 h;obtain⟨h1,h2⟩:=qE.1 he;exact⟨e,h1,(dW.1 h2).1,rfl⟩
def xJ (m d n TL i:Int)(a:List EV)(dn:Int):Prop:=∃a1 ea a2 s1 es s2 t,a=a1++ea::a2/\dK i ea=true/\ins i a1=bC i a/\a1++[ea]=s1++es::s2/\dK i es=true/\ins i s1=bC i s1/\dn<=t+TL/\sv m d n (max (t - 1 - es.at_) 0)<aA (ins i (es::s2))*65536
structure Gh (m d n i:Int) (l:LF) (q:List PK) (ev:List EV):Prop where
 fifo:ins i ev=bC i ev++q
 ws:l.has=true->∃ws:List WN,ir m d n ws l.D/\∀v ∈ ws,v.ok/\v.p<=l.p/\∃s1 e s2,ev=s1++e::s2/\dK i e=true/\e.at_=v.at_/\ins i s1=bC i s1/\l.p - v.p<=aA (bC i s2)
section
variable {m d n i now TL dn:Int} {l l':LF} {q r:List PK} {p:PK} {ev:List EV}
theorem Gh.good (hc:dk m d n)(G:Gh m d n i l (p::r) ev)(H:Lf m d n now l (aw (p::r)))(hp:1<=p.len)(hb:∀e ∈ ev,e.inn=true->0<=e.pk.len)(Nr:dn<=l.t+TL):xJ m d n TL i ev dn:=by
 have h0:(0:Int)<aw (p::r):=by show (0:Int)<p.len;omega
 obtain⟨h1,_,h3⟩:=H.hs h0;obtain⟨ws,F,QX⟩:=G.ws h1;have hr:=H.rng;obtain⟨t1,v,hv,ha⟩:=rW hc F (P:=l.p) (W:=(l.p+aw (p::r))*65536) hr.1 (λv hv=>⟨(QX v hv).1,(QX v hv).2.1⟩) ρa;rw[<- h3] at t1 ha;have hh:aw (p::r)=p.len:=rfl;rw[hh] at ha;obtain⟨vok,vp,s1,e,s2,rfl,he,MF,hs,QT⟩:=QX v hv;have hf:=G.fifo;have e1:ins i (e::s2)=bC i s2++p::r:=by rw[cU,cI,hs,bQ,qI (by rw[fu he];simp),List.append_assoc] at hf;exact List.append_cancel_left hf
 obtain⟨b1,ea,a2,hd,hea,SH,Kr⟩:=tQ e1;have e2:∃s2',b1++[ea]=e::s2':=by
  cases b1 with
  | nil=>exact⟨[],by simp at hd ⊢;exact hd.1.symm⟩
  | cons z b=>exact⟨b++[ea],by simp at hd ⊢;exact hd.1.symm⟩
 obtain⟨s2',e2⟩:=e2;refine⟨s1++b1,ea,a2,s1,e,s2',l.t,by rw[hd,List.append_assoc],hea,?_,by rw[List.append_assoc,e2],he,hs,Nr,?_⟩
 ·rw[cU,cI,hs,Kr,bQ,qI (by rw[fu he];simp)]
 ·rw[<- e2,cU,Kr,dQ,bp,qP hea,SH];show _<(aA (bC i s2)+(p.len+0))*65536;rw[MF];unfold WN.asked WN.val at ha;split at ha
  ·rw[show max (l.t - 1 - v.at_) 0=l.t - 1 - v.at_ by omega];omega
  ·rw[show max (l.t - 1 - v.at_) 0=0 by omega];have:sv m d n 0=0:=by unfold sv;rw[qP hc.2.2.1.1,Int.mul_zero]
   have g2:0<=aA (bC i s2):=ρa;omega
theorem Gh.other (G:Gh m d n i l q ev) {e:EV} (he:e.cls≠i):Gh m d n i l q (ev++[e]):=by
 have h1:dK i e=false:=by simp[dK,he]
 have h2:dy i e=false:=by simp[dy,he]
 refine⟨?_,λh=>?_⟩
 ·rw[cU,cI,bp,bQ,h1,h2];simpa [ins,bC] using G.fifo
 ·exact ηc
theorem Gh.come (G:Gh m d n i l q ev) {e:EV} (he:dK i e=true):Gh m d n i l (q++[e.pk]) (ev++[e]):=by
 have h2:=fu he;refine⟨?_,λh=>?_⟩
 ·rw[cU,cI,bp,bQ,h2,qP he,G.fifo];simp[ins,bC]
 ·exact ηc
theorem Gh.wake (hc:dk m d n)(G:Gh m d n i l [] ev) {e:EV} (he:dK i e=true)(hv:WN.ok ⟨e.at_,l.p⟩)(e1:l'.p=l.p)(e3:l'.D=if l.has then RN.meet l.D (WN.start m d n ⟨e.at_,l.p⟩) else WN.start m d n ⟨e.at_,l.p⟩):Gh m d n i l' [e.pk] (ev++[e]):=by
 have h2:=fu he;have hf:=G.fifo;rw[qA] at hf;have new:(⟨e.at_,l.p⟩:WN).ok/\(⟨e.at_,l.p⟩:WN).p<=l'.p/\∃s1 e' s2,ev++[e]=s1++e'::s2/\dK i e'=true/\e'.at_=(⟨e.at_,l.p⟩:WN).at_/\ins i s1=bC i s1/\l'.p - (⟨e.at_,l.p⟩:WN).p<=aA (bC i s2):=
  ⟨hv,by rw[e1];exact qJ _,ev,e,[],rfl,he,rfl,hf,by rw[e1];show l.p - l.p<=0;omega⟩
 refine⟨?_,λ_=>?_⟩
 ·rw[cU,cI,bp,bQ,h2,qP he,hf];simp[ins,bC]
 ·rw[e3];cases hh:l.has with
  | false=>rw[qI ρp];exact⟨[⟨e.at_,l.p⟩],ir.one hc hv,λv hvm=>by rw[qS.1 hvm];exact new⟩
  | true=>
   obtain⟨ws,F,QX⟩:=G.ws hh;rw[qP rfl];have M:=ir.meet (v:=⟨e.at_,l.p⟩) hc F hv;refine⟨_,M,λv hvm=>?_⟩;rcases qM.1 hvm with g|g
   ·obtain⟨a,b,s1,e',s2,rfl,c1,c2,c3,c4⟩:=QX v g;exact⟨a,by rw[e1];exact b,s1,e',s2++[e],by simp,c1,c2,c3,by rw[e1,cI,bQ,h2];simpa [bC] using c4⟩
   ·rw[qS.1 g];exact new
theorem Gh.go (G:Gh m d n i l (p::r) ev) {e:EV} (he:dy i e=true)(SH:e.pk=p)(e1:l'.has=l.has)(e2:l'.D=l.D)(e3:l.p<=l'.p/\l'.p<=l.p+p.len)(hp:0<=p.len):Gh m d n i l' r (ev++[e]):=by
 have h2:=mq he;refine⟨?_,λh=>?_⟩
 ·rw[cU,cI,bp,bQ,h2,qP he,G.fifo,SH];simp[ins,bC]
 ·obtain⟨ws,F,QX⟩:=G.ws (e1 ▸ h);refine⟨ws,e2 ▸ F,λv hv=>?_⟩;obtain⟨a,b,s1,e',s2,rfl,c1,c2,c3,c4⟩:=QX v hv;refine⟨a,by omega,s1,e',s2++[e],by simp,c1,c2,c3,?_⟩;rw[cI,bQ,qP he,SH,dQ];show _<=aA (bC i s2)+(p.len+0);omega
end
theorem gg {l:LF} {h:Int} (hp:0<=l.p/\l.p<=1099511627776)(hh:0<=h/\h<=16384):(l.headed h).has=l.has/\(l.headed h).D=l.D/\(l.headed h).E=l.E/\(l.headed h).p=l.p/\(0<h->(l.headed h).e=l.E.reach (l.p*65536)/\(l.headed h).t=l.D.reach ((l.p+h)*65536)):=by
 unfold LF.headed;split
 ·refine⟨rfl,rfl,rfl,rfl,λ_=>⟨rfl,?_⟩⟩;show l.D.reach _=_;rw[qZ _ ⟨by omega,by omega⟩]
 ·exact⟨rfl,rfl,rfl,rfl,λh=>by omega⟩
theorem vN {l:LF} {s h:Int} (hp:0<=l.p/\l.p+s<=1099511627776)(hs:0<=s)(hh:0<=h/\h<=16384):(l.took s h).has=l.has/\(l.took s h).D=l.D/\(l.took s h).E=l.E/\(l.took s h).p=l.p+s/\(0<h->(l.took s h).e=l.E.reach ((l.p+s)*65536)/\(l.took s h).t=l.D.reach ((l.p+s+h)*65536)):=by unfold LF.took;rw[show max s 0=s by omega,show IntKind.u64.wrap (l.p+s)=l.p+s from qZ _ ⟨by omega,by omega⟩];exact gg (l:=⟨l.has,l.D,l.E,l.p+s,l.e,l.t⟩) ⟨by show 0<=l.p+s;omega,hp.2⟩ hh
theorem gN {q:List PK} {N:Int} (h:∀p ∈ q,1<=p.len/\p.len<=N)(hN:0<=N):0<=aw q/\aw q<=N/\(aw q=0↔q=[]):=by
 cases q with
 | nil=>exact⟨qJ _,hN,by simp[aw]⟩
 | cons p r=>have:=h p ρp;exact⟨by show 0<=p.len;omega,this.2,by simp only[aw];constructor<;>intro g;omega;cases g⟩
theorem jC {P:List EV->EV->Prop} {f:EV->Bool} {ev:List EV} {e:EV} (h:∀a v b,ev=a++v::b->f v=true->P a v)(hn:f e=true->P ev e):∀a v b,ev++[e]=a++v::b->f v=true->P a v:=by
 intro a v b hb hv;rcases List.eq_nil_or_concat b with rfl|⟨b',z,rfl⟩
 ·obtain⟨rfl,h2⟩:=List.append_inj' hb rfl;cases h2;exact hn hv
 ·have Kx:ev++[e]=(a++v::b')++[z]:=by rw[hb];simp
  obtain⟨h1,_⟩:=List.append_inj' Kx rfl;exact h a v b' h1 hv
theorem IB.congr {T Lm now:Int} {R:List Int} {c:Int->Int × Int × Int} {l l':Int->LF} {h h':Int->Int} {dl x:Int} (e:∀i ∈ R,l' i=l i/\h' i=h i)(I:IB T Lm now R c l h dl x):IB T Lm now R c l' h' dl x:=by obtain⟨t0,p0,h1,h2,h3⟩:=I;refine⟨t0,p0,h1,?_,λi hi=>by rw[(e i hi).1,(e i hi).2];exact h3 i hi⟩;rw[show cW (λi=>(l' i).p - p0 i) R=cW (λi=>(l i).p - p0 i) R from ic λi hi=>by rw[(e i hi).1]];exact h2
structure DS (T Lm:Int) (R:List Int) (c:Int->Int × Int × Int) (now x:Int) (l:Int->LF) (q:Int->List PK) (ev:List EV):Prop where
 lfs:∀i ∈ R,dk (c i).1 (c i).2.1 (c i).2.2/\Lf (c i).1 (c i).2.1 (c i).2.2 now (l i) (aw (q i))
 gh:∀i ∈ R,Gh (c i).1 (c i).2.1 (c i).2.2 i (l i) (q i) ev
 ib:∀dl,0<=dl/\dl<=9223372036854775807->IB T Lm now R c l (λi=>aw (q i)) dl x
 hist:∀i ∈ R,∀a v b,ev=a++v::b->dy i v=true->xJ (c i).1 (c i).2.1 (c i).2.2 (T*Lm) i a v.done
 len:∀e ∈ ev,e.inn=true->1<=e.pk.len/\e.pk.len<=Lm
 tm:ev.Pairwise (λa b=>a.at_<=b.at_)/\∀e ∈ ev,0<=e.at_/\e.at_<=now
section
variable {T Lm now now' x x':Int} {R:List Int} {c:Int->Int × Int × Int} {l l':Int->LF} {q q':Int->List PK} {ev:List EV} {e:EV} {k:Int} {p:PK} {r:List PK}
theorem pT (h:ev.Pairwise (λa b=>a.at_<=b.at_)/\∀e ∈ ev,0<=e.at_/\e.at_<=now)(h0:0<=now)(he:e.at_=now):(ev++[e]).Pairwise (λa b=>a.at_<=b.at_)/\∀z ∈ ev++[e],0<=z.at_/\z.at_<=now:=by
 refine⟨List.pairwise_append.2 ⟨h.1,List.pairwise_singleton _ _,λa ha b hb=>?_⟩,λz hz=>?_⟩
 ·rw[qS.1 hb,he];exact(h.2 a ha).2
 ·rcases qM.1 hz with g|g
  ·exact h.2 z g
  ·rw[qS.1 g];omega
theorem lG {P:EV->Prop} (h:∀e ∈ ev,e.inn=true->P e)(he:e.inn=true->P e):∀z ∈ ev++[e],z.inn=true->P z:=by
 intro z hz hi;rcases qM.1 hz with g|g
 ·exact h z g hi
 ·rw[qS.1 g] at hi ⊢;exact he hi
theorem DS.qs (H:DS T Lm R c now x l q ev) {i:Int} (hi:i ∈ R):∀p ∈ q i,1<=p.len/\p.len<=Lm:=by intro p hp;obtain⟨e,he,h1,rfl⟩:=vh (i:=i) (l:=ev) (p:=p) (by rw[(H.gh i hi).fifo];simp[hp]);exact H.len e he h1
theorem DS.later (H:DS T Lm R c now x l q ev)(hn:now<=now'):DS T Lm R c now' x l q ev:=
 ⟨λi hi=>⟨(H.lfs i hi).1,(H.lfs i hi).2.later hn⟩,H.gh,λdl hd=>(H.ib dl hd).later hn,H.hist,H.len,H.tm.1,λe he=>by have:=H.tm.2 e he;omega⟩
theorem DS.less (H:DS T Lm R c now x l q ev)(hx:x'<=x):DS T Lm R c now x' l q ev:=⟨H.lfs,H.gh,λdl hd=>(H.ib dl hd).less hx,H.hist,H.len,H.tm⟩
theorem DS.reset (t0:Int)(H:DS T Lm R c now x l q ev)(h0:0<=now/\now<=t0)(ht:t0<=now'/\now'<=4611686018427387904)(he:∀i ∈ R,q i≠[]->t0<(l i).e)(hx:x'<=t0+T*Lm):DS T Lm R c now' x' l q ev:=by have hL:=H.later (now':=now') ρa;refine⟨hL.lfs,hL.gh,λdl hd=>IB.reset t0 H.lfs h0 ⟨ht.1,by omega⟩ hd.2 (λi hi hh=>he i hi (λe=>?_)) hx,hL.hist,hL.len,hL.tm⟩;rw[e] at hh;exact ax hh (by simp[aw])
theorem DS.put (H:DS T Lm R c now x l q ev)(h0:0<=now)(he:e.inn=true/\e.cls=k/\e.at_=now)(hp:1<=e.pk.len/\e.pk.len<=Lm)(hl:∀i ∈ R,l' i=l i)(hq:∀i ∈ R,q' i=if i=k then q k++[e.pk] else q i)(hk:k ∈ R->q k≠[]):DS T Lm R c now x l' q' (ev++[e]):=by
 have hh:∀i ∈ R,aw (q' i)=aw (q i):=λi hi=>by
  rw[hq i hi];split
  ·rename_i g;subst g;cases hqi:q i with
   | nil=>exact ax hqi (hk hi)
   | cons z r=>rfl
  ·rfl
 refine⟨λi hi=>?_,λi hi=>?_,λdl hd=>(H.ib dl hd).congr (λi hi=>⟨hl i hi,hh i hi⟩),λi hi=>jC (H.hist i hi) (λg=>?_),lG H.len (λ_=>hp),pT H.tm h0 he.2.2⟩
 ·rw[hl i hi,hh i hi];exact H.lfs i hi
 ·rw[hl i hi,hq i hi];split
  ·rename_i g;subst g;exact(H.gh i hi).come (dW.2 ⟨he.1,he.2.1⟩)
  ·rename_i g;exact(H.gh i hi).other τQ
 ·rw[dI,he.1] at g;exact ax g.1 ρp
theorem DS.wake (H:DS T Lm R c now x l q ev)(h0:0<=now/\now<=4611686018427387904)(RP:Lm<=16384)(he:e.inn=true/\e.cls=k/\e.at_=now)(hp:1<=e.pk.len/\e.pk.len<=Lm)(hk:k ∈ R)(SI:q k=[])(hl:∀i,l' i=if i=k then ((l k).woke (c k).1 (c k).2.1 (c k).2.2 now).headed e.pk.len else l i)(hq:∀i,q' i=if i=k then [e.pk] else q i):DS T Lm R c now x l' q' (ev++[e]):=by
 obtain⟨hc,F⟩:=H.lfs k hk;have hr:=F.rng;have hwp:((l k).woke (c k).1 (c k).2.1 (c k).2.2 now).p=(l k).p:=rfl;obtain⟨e1,e2,e3,e4,e5⟩:=gg (l:=(l k).woke (c k).1 (c k).2.1 (c k).2.2 now) (h:=e.pk.len) (by rw[hwp];exact hr) ρa;have e5:=e5 ρa;have lk:l' k=((l k).woke (c k).1 (c k).2.1 (c k).2.2 now).headed e.pk.len:=by rw[hl];exact qP rfl
 have qk:q' k=[e.pk]:=by rw[hq];exact qP rfl
 have hv:WN.ok ⟨now,(l k).p⟩:=by unfold WN.ok vS;simp only[];omega
 have hD:(l' k).D=if (l k).has then RN.meet (l k).D (WN.start (c k).1 (c k).2.1 (c k).2.2 ⟨now,(l k).p⟩) else WN.start (c k).1 (c k).2.1 (c k).2.2 ⟨now,(l k).p⟩:=by rw[lk,e2];rfl
 have hE:(l' k).E=if (l k).has then RN.meet (l k).E (WN.ready (c k).1 (c k).2.1 (c k).2.2 ⟨now,(l k).p⟩) else WN.ready (c k).1 (c k).2.1 (c k).2.2 ⟨now,(l k).p⟩:=by rw[lk,e3];rfl
 have hhas:(l' k).has=true:=by rw[lk,e1];rfl
 have hP:(l' k).p=(l k).p:=by rw[lk,e4];rfl
 have K:LK (c k).1 (c k).2.1 (c k).2.2 now (l' k).D (l' k).E:=by
  rw[hD,hE];cases hh:(l k).has with
  | false=>exact LK.one hc ⟨now,(l k).p⟩ hv
  | true=>exact LK.meet hc ⟨now,(l k).p⟩ hv (F.lk hh)
 have hT:(l' k).t=(l' k).D.reach (((l' k).p+e.pk.len)*65536):=by rw[hP];rw[lk,e5.2,e2];rfl
 have hEe:(l' k).e=(l' k).E.reach ((l' k).p*65536):=by rw[hP];rw[lk,e5.1,e3];rfl
 have hh:∀i,i≠k->l' i=l i/\aw (q' i)=aw (q i):=λi hi=>by rw[hl,hq,qI hi,qI hi];exact⟨rfl,rfl⟩
 have Nz:aw (q k)=0:=by rw[SI];rfl
 have Tv:aw (q' k)=e.pk.len:=by rw[qk];rfl
 refine⟨λi hi=>?_,λi hi=>?_,λdl hd=>?_,λi hi=>jC (H.hist i hi) (λg=>?_),lG H.len (λ_=>hp),pT H.tm h0.1 he.2.2⟩
 ·by_cases g:i=k
  ·subst g;rw[Tv];exact⟨hc,by rw[hP];exact hr,by omega,λ_=>K,λ_=>⟨hhas,hEe,hT⟩⟩
  ·rw[(hh i g).1,(hh i g).2];exact H.lfs i hi
 ·by_cases g:i=k
  ·subst g;rw[qk];have G:=H.gh i hi;rw[SI] at G;refine G.wake hc (dW.2 ⟨he.1,he.2.1⟩) (by rw[he.2.2];exact hv) hP (by rw[he.2.2];exact hD)
  ·rw[hl,hq,qI g,qI g];exact(H.gh i hi).other τQ
 ·refine IB.wake (k:=k) H.lfs h0 hd hh Nz (by simp only[Tv];omega) (λm d n Mu=>?_) (H.ib dl hd);rw[Mu] at hD;exact⟨hhas,hP,hD,by simp only[Tv];exact hT,K.pair.1⟩
 ·rw[dI,he.1] at g;exact ax g.1 ρp
theorem DS.real (H:DS T Lm R c now now l q ev)(hR:R.Nodup)(hA:Io T R c)(hT:1<=T)(RP:1<=Lm/\Lm<=16384)(hTL:T*Lm<=1073741824)(h0:0<=now/\now<=4611686018427387904)(he:e.inn=false/\e.cls=k/\e.at_=now/\e.pk=p/\e.done=now+T*p.len)(hk:k ∈ R)(SI:q k=p::r)(hp:(l k).p+p.len<=1099511627776)(hmin:∀i ∈ R,q i≠[]->(l i).e<=now->(l k).t<=(l i).t)(hl:∀i,l' i=if i=k then (l k).took p.len (aw r) else l i)(hq:∀i,q' i=if i=k then r else q i):DS T Lm R c now (now+T*p.len) l' q' (ev++[e]):=by
 obtain⟨hc,F⟩:=H.lfs k hk;have hr:=F.rng;have Mk:=H.qs hk p (by rw[SI];simp);have Nv:=gN (q:=r) (N:=Lm) (λz hz=>H.qs hk z (by rw[SI];simp[hz])) ρa;obtain⟨e1,e2,e3,e4,e5⟩:=vN (l:=l k) (s:=p.len) (h:=aw r) ⟨hr.1,hp⟩ ρa ρa;have lk:l' k=(l k).took p.len (aw r):=by rw[hl];exact qP rfl
 have qk:q' k=r:=by rw[hq];exact qP rfl
 rw[<- lk] at e1 e2 e3 e4 e5;have hh:∀i,i≠k->l' i=l i/\aw (q' i)=aw (q i):=λi hi=>by rw[hl,hq,qI hi,qI hi];exact⟨rfl,rfl⟩
 have Nz:aw (q k)=p.len:=by rw[SI];rfl
 have Tv:aw (q' k)=aw r:=by rw[qk]
 have F':=F;rw[Nz] at F';have hTp:T*p.len<=T*Lm:=qU Mk.2 ρa;have hmin':∀i ∈ R,0<aw (q i)->(l i).e<=now->(l k).t<=(l i).t:=λi hi g1 g2=>hmin i hi (λg=>by rw[g] at g1;exact ax g1 (by simp[aw])) g2;have t0:0<=(l k).t:=by obtain⟨g1,_,g3⟩:=F'.hs ρa;rw[g3];exact(RN.reach_rng (RN.small_ok (F'.lk g1).pair.1) _).1
 refine⟨λi hi=>?_,λi hi=>?_,λdl hd=>?_,λi hi=>jC (H.hist i hi) (λg=>?_),lG H.len (λg=>by rw[he.1] at g;cases g),pT H.tm h0.1 he.2.2.1⟩
 ·by_cases g:i=k
  ·subst g;rw[Tv];refine⟨hc,by rw[e4];omega,by omega,λg=>?_,λg=>?_⟩
   ·rw[e2,e3];exact F.lk (e1 ▸ g)
   ·have:=e5 g;rw[e1,e4,e2,e3];exact⟨(F'.hs ρa).1,this.1,this.2⟩
  ·rw[(hh i g).1,(hh i g).2];exact H.lfs i hi
 ·by_cases g:i=k
  ·subst g;rw[qk];exact ηW
  ·rw[hl,hq,qI g,qI g];exact(H.gh i hi).other τQ
 ·by_cases MI:(l k).t<=dl
  ·have:=IB.took (k:=k) (l':=l') (h':=λi=>aw (q' i)) hR hk H.lfs (by simp only[Nz];omega) MI hh e1 (by simp only[Nz];exact e4) e2 (H.ib dl hd);simp only[Nz] at this;exact this
  ·refine IB.late (k:=k) H.lfs ⟨h0.1,by omega⟩ hd.2 ρa (by simp only[Nz];omega) hmin' hh e2 (by simp only[Nz];exact e4) (by simp only[Tv];omega) (λg=>?_) ρa;simp only[Tv] at g ⊢;rw[e4,e2];exact(e5 g).2
 ·obtain⟨_,rfl⟩:=dI.1 g;have hek:=he.2.1;rw[hek] at hi ⊢;have G:=H.gh k hk;rw[SI] at G;refine G.good hc (by rw[show aw (p::r)=p.len from rfl];exact F') Mk.1 (λz hz hi=>by have:=H.len z hz hi;omega) ?_;rw[he.2.2.2.2];by_cases ht:(l k).t<=Mb
  ·have:=IB.done (k:=k) ρa hA hR hk H.lfs (by simp only[Nz];omega) rfl (H.ib (l k).t ⟨t0,ht⟩);simp only[Nz] at this;exact this
  ·omega
theorem DS.share (H:DS T Lm R c now x l q ev)(hT:1<=T)(RP:1<=Lm/\Lm<=16384)(h0:0<=now/\now<=4611686018427387904)(he:e.inn=false/\e.cls=k/\e.at_=now/\e.pk=p/\e.done=now+T*p.len)(SI:q k=p::r)(hp:p.len<=Lm)(UP:∀i ∈ R,q i≠[]->now<(l i).e)(hl:∀i ∈ R,l' i=if i=k then (l k).headed (aw r) else l i)(hq:∀i,q' i=if i=k then r else q i):DS T Lm R c now (now+T*p.len) l' q' (ev++[e]):=by
 have hTp:T*p.len<=T*Lm:=qU hp ρa;have key:∀i ∈ R,i=k->dk (c i).1 (c i).2.1 (c i).2.2/\(l' i).has=(l i).has/\(l' i).D=(l i).D/\(l' i).E=(l i).E/\(l' i).p=(l i).p/\(0<aw r->(l' i).e=(l i).E.reach ((l i).p*65536)/\(l' i).t=(l i).D.reach (((l i).p+aw r)*65536))/\Lf (c i).1 (c i).2.1 (c i).2.2 now (l i) p.len/\1<=p.len/\(0<=aw r/\aw r<=16384)/\(l' i).e=(if 0<aw r then (l i).e else (l' i).e):=by
  rintro i hi rfl;obtain⟨hc,F⟩:=H.lfs i hi;have Mk:=H.qs hi p (by rw[SI];simp);have Nv:=gN (q:=r) (N:=Lm) (λz hz=>H.qs hi z (by rw[SI];simp[hz])) ρa;obtain⟨e1,e2,e3,e4,e5⟩:=gg (l:=l i) (h:=aw r) F.rng ρa;have lk:l' i=(l i).headed (aw r):=by rw[hl i hi];exact qP rfl
  rw[<- lk] at e1 e2 e3 e4 e5;rw[SI] at F;refine⟨hc,e1,e2,e3,e4,e5,F,Mk.1,by omega,?_⟩;split
  ·rename_i g;rw[(e5 g).1,(F.hs (by show 0<p.len;omega)).2.1]
  ·rfl
 have hD:DS T Lm R c now (now+T*p.len) l' q' (ev++[e])->DS T Lm R c now (now+T*p.len) l' q' (ev++[e]):=id;have lfs:∀i ∈ R,dk (c i).1 (c i).2.1 (c i).2.2/\Lf (c i).1 (c i).2.1 (c i).2.2 now (l' i) (aw (q' i)):=λi hi=>by
  by_cases g:i=k
  ·obtain⟨hc,e1,e2,e3,e4,e5,F,Mk,Nv,_⟩:=key i hi g;rw[hq,qP g];refine⟨hc,by rw[e4];exact F.rng,by omega,λg=>?_,λg=>?_⟩
   ·rw[e2,e3];exact F.lk (e1 ▸ g)
   ·have:=e5 g;rw[e1,e4,e2,e3];exact⟨(F.hs ρa).1,this.1,this.2⟩
  ·rw[hl i hi,hq,qI g,qI g];exact H.lfs i hi
 refine⟨lfs,λi hi=>?_,λdl hd=>?_,λi hi=>jC (H.hist i hi) (λg=>?_),lG H.len (λg=>by rw[he.1] at g;cases g),pT H.tm h0.1 he.2.2.1⟩
 ·by_cases g:i=k
  ·obtain⟨hc,e1,e2,e3,e4,e5,F,Mk,Nv,_⟩:=key i hi g;subst g;rw[hq,qP rfl];exact ηW
  ·rw[hl i hi,hq,qI g,qI g];exact(H.gh i hi).other τQ
 ·refine IB.reset now lfs ⟨h0.1,qJ _⟩ ⟨qJ _,by omega⟩ hd.2 (λi hi hh=>?_) ρa;by_cases g:i=k
  ·obtain⟨hc,e1,e2,e3,e4,e5,F,Mk,Nv,e6⟩:=key i hi g;simp only[hq,qP g] at hh;rw[e6,qP hh];exact UP i hi (by rw[g,SI];simp)
  ·simp only[hq,qI g] at hh;rw[hl i hi,qI g];exact UP i hi (λe=>by rw[e] at hh;exact ax hh (by simp[aw]))
 ·obtain⟨_,rfl⟩:=dI.1 g;have hek:=he.2.1;rw[hek] at hi ⊢;obtain⟨hc,e1,e2,e3,e4,e5,F,Mk,Nv,e6⟩:=key k hi rfl;have G:=H.gh k hi;rw[SI] at G;refine G.good hc (by rw[show aw (p::r)=p.len from rfl];exact F) Mk (λz hz hi=>by have:=H.len z hz hi;omega) ?_;have h1:=F.et hc ρa;have h2:=UP k hi (by rw[SI];simp);rw[he.2.2.2.2];omega
end
end Go.Proofs.YtfdlemkplejdnaaGreat
