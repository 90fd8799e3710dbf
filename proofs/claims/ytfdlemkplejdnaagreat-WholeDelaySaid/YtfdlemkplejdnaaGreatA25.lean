/- WholeDelay, part 25. Conditions: none. -/
import Derived.Test.YtfdlemkplejdnaaGreatA22
namespace Go.Proofs.YtfdlemkplejdnaaGreat
open Go.RowKit Go.Sort
open Value renaming int->ι,pointer->ψ,slice->ζ,tuple->χ,agg->φ,map->μ,bool->β
open IntKind renaming u64->υ,i64->ε,u16->ω
open Ending renaming returned->ϰ
open Go.Proofs.Tryz renaming prog->Ψ,underlying3->Θ,underlying147->Δ,underlying152->Γ,underlying202->Φ,underlying39->Ξ,underlying207->Ω
open Go renaming World->ϖ,Value->ϗ
set_option linter.unusedVariables false
set_option linter.unusedSimpArgs false
set_option maxHeartbeats 8000000
set_option maxRecDepth 100000
theorem gi {x i:Int} {l:List Int}:x ∈ dI i l↔x=i\/x ∈ l:=by
 unfold dI;split
 ·rename_i h;exact⟨.inr,λg=>g.elim (λe=>e ▸ h) id⟩
 ·simp only[ZM,ZS];exact Or.comm
theorem gg {x i:Int} {l:List Int}:x ∈ dB i l↔x ∈ l/\x≠i:=by unfold dB;rw[ZE];simp
theorem uQ (i:Int)(l:List Int):dI i l≠[]:=λh=>by have:i ∈ dI i l:=gi.2 (.inl rfl);rw[h] at this;cases this
def pu (L:List CD)(on:Int->Bool)(K:Int->List Int)(x:Int):Prop:=∀p j,j≠x->(j ∈ K p↔∃c,fc L j=some c/\c.par=p/\eV c=true/\(on j=true\/K j≠[]))
def nX (L:List CD)(on:Int->Bool)(K:Int->List Int):Prop:=∀p j,(j ∈ K p↔∃c,fc L j=some c/\c.par=p/\eV c=true/\(on j=true\/K j≠[]))
section
variable {L:List CD} {on:Int->Bool} {K:Int->List Int} {i p:Int} {c:CD}
theorem pu.add (hc:fc L i=some c)(hs:eV c=true)(hp:c.par=p)(Yy:p≠i)(H:pu L on K i)(h0:∀q,i ∉ K q)(ha:on i=true\/K i≠[]):pu L on (ax K p (dI i (K p))) p:=by
 intro q j hj;have e1:ax K p (dI i (K p)) j=K j:=ZI hj;rw[e1];by_cases hq:q=p
 ·subst hq;rw[show ax K q (dI i (K q)) q=dI i (K q) from ZP rfl,gi];by_cases NV:j=i
  ·subst NV;exact⟨λ_=>⟨c,hc,hp,hs,ha⟩,λ_=>.inl rfl⟩
  ·rw[<- H q j NV];exact⟨λh=>h.resolve_left NV,.inr⟩
 ·rw[show ax K p (dI i (K p)) q=K q from ZI hq];by_cases NV:j=i
  ·subst NV;refine⟨λh=>az h (h0 q),λ⟨d,h1,h2,_⟩=>?_⟩;rw[hc] at h1;cases h1;exact az (h2.symm.trans hp) hq
  ·exact H q j NV
theorem pu.full {K':Int->List Int} {l:List Int} (H:pu L on (ax K p l) p)(H0:pu L on K i)(Yy:p≠i)(hk:∀q,p ∈ ax K p l q↔p ∈ K q)(h:(K p≠[]/\l≠[])\/fc L p=none):nX L on (ax K p l):=by
 intro q j;by_cases hj:j=p
 ·subst hj;rw[hk q,H0 q j Yy,show ax K j l j=l from ZP rfl];rcases h with ⟨h1,h2⟩|h
  ·exact⟨λ⟨d,g1,g2,g3,_⟩=>⟨d,g1,g2,g3,.inr h2⟩,λ⟨d,g1,g2,g3,_⟩=>⟨d,g1,g2,g3,.inr h1⟩⟩
  ·exact⟨λ⟨d,g1,_⟩=>(by rw[h] at g1;cases g1),λ⟨d,g1,_⟩=>(by rw[h] at g1;cases g1)⟩
 ·exact H q j hj
theorem tE (Yy:p≠i)(q:Int):p ∈ ax K p (dI i (K p)) q↔p ∈ K q:=by
 unfold ax;split
 ·rename_i e;rw[gi,e];exact⟨λh=>h.resolve_left Yy,.inr⟩
 ·exact Iff.rfl
theorem tz (Yy:p≠i)(q:Int):p ∈ ax K p (dB i (K p)) q↔p ∈ K q:=by
 unfold ax;split
 ·rename_i e;rw[gg,e];exact⟨λh=>h.1,λh=>⟨h,Yy⟩⟩
 ·exact Iff.rfl
theorem pu.del (hc:fc L i=some c)(hp:c.par=p)(Yy:p≠i)(H:pu L on K i)(h0:∀q,i ∈ K q->q=p)(ha:¬(on i=true\/K i≠[])):pu L on (ax K p (dB i (K p))) p:=by
 intro q j hj;have e1:ax K p (dB i (K p)) j=K j:=ZI hj;rw[e1];by_cases NV:j=i
 ·subst NV;refine⟨λh=>?_,λ⟨d,h1,h2,h3,h4⟩=>az h4 ha⟩;by_cases hq:q=p
  ·subst hq;rw[show ax K q (dB j (K q)) q=dB j (K q) from ZP rfl,gg] at h;exact az rfl h.2
  ·rw[show ax K p (dB j (K p)) q=K q from ZI hq] at h;exact az (h0 q h) hq
 ·rw[<- H q j NV];unfold ax;split
  ·rename_i e;rw[gg,e];exact⟨λh=>h.1,λh=>⟨h,NV⟩⟩
  ·exact Iff.rfl
end
section
variable {L:List CD} {on:Int->Bool}
theorem jB:∀{xs:List Int} {i x:Int} {K:Int->List Int},cf L i xs->pu L on K x->x ∉ xs->(xs≠[]->on i=true\/K i≠[])->(∀y ∈ xs.tail,K y≠[])/\(xs≠[]->K 0≠[])
 | [],i,x,K,_,_,_,_=>⟨λ_ h=>by simp at h,λh=>az rfl h⟩
 | [z],i,x,K,h,H,hx,ha=>by obtain⟨rfl,c,hc,hs,h0⟩:=h;have h0:c.par=0:=h0;have:=(H 0 z (λe=>hx (by simp[e]))).2 ⟨c,hc,h0,hs,ha ρp⟩;exact⟨λ_ h=>by simp at h,λ_ e=>by rw[e] at this;cases this⟩
 | z::p::r,i,x,K,h,H,hx,ha=>by
  obtain⟨rfl,c,hc,hs,hr⟩:=h;have hp:=hr.1;have:=(H p z (λe=>hx (by simp[e]))).2 ⟨c,hc,hp.symm,hs,ha ρp⟩;have hK:K p≠[]:=λe=>by rw[e] at this;cases this
  obtain⟨h1,h2⟩:=jB hr H (λe=>hx (by simp at e ⊢;exact .inr e)) (λ_=>.inr (hp ▸ hK));refine⟨λy hy=>?_,λ_=>h2 ρp⟩;simp only[List.tail_cons,ZC] at hy;rcases hy with rfl|hy
  ·exact hK
  ·exact h1 y hy
theorem uN (nz:fc L 0=none):∀{xs:List Int} {i:Int} {K:Int->List Int},cf L i xs->xs≠[]->(0::xs).Nodup->(∀y ∈ xs.tail,on y=false)->pu L on K i->(∀q,i ∉ K q)->(on i=true\/K i≠[])->nX L on (bp K xs).2/\(∀y,y ∈ (bp K xs).1↔y ∈ xs/\(y=i\/K y=[]))/\(∀p j,j ∈ K p->j ∈ (bp K xs).2 p)
 | [],i,K,_,h,_,_,_,_,_=>az rfl h
 | [z],i,K,h,_,hn,_,H,h0,ha=>by
  obtain⟨rfl,c,hc,hs,hp⟩:=h;have hp:c.par=0:=hp;have hz:(0:Int)≠z:=λe=>by rw[<- e,nz] at hc;cases hc
  have A:=pu.add hc hs hp hz H h0 ha;refine⟨A.full H hz (tE hz) (.inr nz) (K':=K),λy=>?_,λp j hj=>?_⟩
  ·simp only[bp,ZS];exact⟨λe=>⟨e,.inl e⟩,λe=>e.1⟩
  ·simp only[bp];unfold ax;split
   ·rename_i e;rw[e] at hj;exact gi.2 (.inr hj)
   ·exact hj
 | z::p::r,i,K,h,_,hn,MT,H,h0,ha=>by
  obtain⟨rfl,c,hc,hs,hr⟩:=h;have hp:=hr.1;have Xh:(0::p::r).Nodup:=by simp at hn ⊢;exact⟨⟨hn.1.2.1,hn.1.2.2⟩,hn.2.2⟩
  have Tu:p≠z:=λe=>by simp[e] at hn
  have A:=pu.add hc hs hp.symm Tu H h0 ha;by_cases hK:K p=[]
  ·have NX:cf L p (p::r):=hp ▸ hr;obtain⟨h1,h2,h3⟩:=uN nz NX ρp Xh (λy hy=>MT y (by simp at hy ⊢;exact .inr hy)) A (λq hq=>by
    rw[tE Tu q] at hq;obtain⟨d,_,_,_,g⟩:=(H q p Tu).1 hq;rcases g with g|g
    ·rw[MT p ρp] at g;cases g
    ·exact g hK) (.inr (by rw[show ax K p (dI z (K p)) p=dI z (K p) from ZP rfl];exact uQ _ _))
   have e:bp K (z::p::r)=(z::(bp (ax K p (dI z (K p))) (p::r)).1,(bp (ax K p (dI z (K p))) (p::r)).2):=by rw[bp];exact ZP hK
   rw[e];refine⟨h1,λy=>?_,λq j hj=>h3 q j ?_⟩
   ·simp only[ZC];rw[h2 y];constructor
    ·rintro(rfl|⟨g1,g2⟩)
     ·exact⟨.inl rfl,.inl rfl⟩
     ·refine⟨.inr (by simpa using g1),.inr ?_⟩;by_cases hy:y=p
      ·rw[hy];exact hK
      ·rcases g2 with g2|g2
       ·exact az g2 hy
       ·rw[show ax K p (dI z (K p)) y=K y from ZI hy] at g2;exact g2
    ·rintro⟨rfl|g1,g2⟩
     ·exact .inl rfl
     ·by_cases hyz:y=z
      ·exact .inl hyz
      ·refine .inr ⟨by simpa using g1,?_⟩;by_cases hy:y=p
       ·exact .inl hy
       ·right;rw[show ax K p (dI z (K p)) y=K y from ZI hy];exact g2.resolve_left hyz
   ·unfold ax;split
    ·rename_i e;rw[e] at hj;exact gi.2 (.inr hj)
    ·exact hj
  ·have e:bp K (z::p::r)=([z],ax K p (dI z (K p))):=by rw[bp];exact ZI hK
   rw[e];refine⟨A.full H Tu (tE Tu) (.inl ⟨hK,uQ _ _⟩) (K':=K),λy=>?_,λq j hj=>?_⟩
   ·simp only[ZS];have NX:cf L p (p::r):=hp ▸ hr;obtain⟨g1,_⟩:=jB NX H (ZD.1 (ZD.1 hn).2).1 (λ_=>.inr hK);constructor
    ·rintro rfl;exact⟨by simp,.inl rfl⟩
    ·rintro⟨hy,rfl|hk⟩
     ·rfl
     ·simp only[ZC] at hy;rcases hy with hy|hy|hy
      ·exact hy
      ·exact az (hy ▸ hk) hK
      ·exact az hk (g1 y (by simpa using hy))
   ·show j ∈ ax K p (dI z (K p)) q;unfold ax;split
    ·rename_i e;rw[e] at hj;exact gi.2 (.inr hj)
    ·exact hj
theorem qq (nz:fc L 0=none):∀{xs:List Int} {i:Int} {K:Int->List Int},cf L i xs->xs≠[]->(0::xs).Nodup->(∀y ∈ xs.tail,on y=false)->pu L on K i->(∀c,fc L i=some c->∀q,i ∈ K q->q=c.par)->¬(on i=true\/K i≠[])->nX L on (aT K xs).2/\(∀y ∈ xs,(y ∈ (aT K xs).1↔¬(on y=true\/(aT K xs).2 y≠[])))/\(∀p j,j ∈ (aT K xs).2 p->j ∈ K p)/\(∀j,j≠0->j ∉ xs.tail->(aT K xs).2 j=K j)
 | [],i,K,_,h,_,_,_,_,_=>az rfl h
 | [z],i,K,h,_,hn,_,H,h0,ha=>by
  obtain⟨rfl,c,hc,hs,hp⟩:=h;have hp:c.par=0:=hp;have hz:(0:Int)≠z:=λe=>by rw[<- e,nz] at hc;cases hc
  have A:=pu.del hc hp hz H (λq hq=>(h0 c hc q hq).trans hp) ha;refine⟨A.full H hz (tz hz) (.inr nz) (K':=K),λy hy=>?_,λp j hj=>?_,λj h1 _=>ZI h1⟩
  ·simp only[ZS] at hy;subst hy;simp only[aT,ZS,true_iff];rw[show ax K 0 (dB y (K 0)) y=K y from ZI hz.symm];exact ha
  ·simp only[aT] at hj;unfold ax at hj;split at hj
   ·rename_i e;rw[e];exact(gg.1 hj).1
   ·exact hj
 | z::p::r,i,K,h,_,hn,MT,H,h0,ha=>by
  obtain⟨rfl,c,hc,hs,hr⟩:=h;have hp:=hr.1;have Xh:(0::p::r).Nodup:=by simp at hn ⊢;exact⟨⟨hn.1.2.1,hn.1.2.2⟩,hn.2.2⟩
  have Tu:p≠z:=λe=>by simp[e] at hn
  have Ra:z≠0:=λe=>by simp[e] at hn
  have A:=pu.del hc hp.symm Tu H (λq hq=>(h0 c hc q hq).trans hp.symm) ha;have NX:cf L p (p::r):=hp ▸ hr;by_cases hK:dB z (K p)=[]
  ·obtain⟨h1,h2,h3,h4⟩:=qq nz NX ρp Xh (λy hy=>MT y (by simp at hy ⊢;exact .inr hy)) A (λd hd q hq=>by
    rw[tz Tu q] at hq;obtain⟨d',g1,g2,_,g⟩:=(H q p Tu).1 hq;rw[hd] at g1;cases g1;exact g2.symm) (by
     rw[show ax K p (dB z (K p)) p=dB z (K p) from ZP rfl,MT p ρp];rintro(g|g)
     ·cases g
     ·exact g hK)
   have e:aT K (z::p::r)=(z::(aT (ax K p (dB z (K p))) (p::r)).1,(aT (ax K p (dB z (K p))) (p::r)).2):=by rw[aT];exact ZP hK
   rw[e];have hzr:z ∉ (p::r).tail:=λe=>by simp at hn e;exact hn.2.1.2 e
   have hkz:(aT (ax K p (dB z (K p))) (p::r)).2 z=K z:=(h4 z Ra hzr).trans (ZI Tu.symm);refine⟨h1,λy hy=>?_,λq j hj=>?_,λj g1 g2=>?_⟩
   ·simp only[ZC];by_cases hyz:y=z
    ·subst hyz;simp only[true_or,true_iff];rw[hkz];exact ha
    ·have hy2:y ∈ p::r:=by simp only[ZC] at hy ⊢;exact hy.resolve_left hyz
     rw[<- h2 y hy2];exact⟨λg=>g.resolve_left hyz,.inr⟩
   ·have:=h3 q j hj;unfold ax at this;split at this
    ·rename_i e;rw[e];exact(gg.1 this).1
    ·exact this
   ·simp only[List.tail_cons,ZC,not_or] at g2;exact(h4 j g1 g2.2).trans (ZI g2.1)
  ·have e:aT K (z::p::r)=([z],ax K p (dB z (K p))):=by rw[aT];exact ZI hK
   rw[e];have F:nX L on (ax K p (dB z (K p))):=A.full H Tu (tz Tu) (.inl ⟨λe=>hK (by rw[e];rfl),hK⟩) (K':=K);refine⟨F,λy hy=>?_,λq j hj=>?_,λj g1 g2=>?_⟩
   ·simp only[ZS];by_cases hyz:y=z
    ·subst hyz;simp only[true_iff];rw[show ax K p (dB y (K p)) y=K y from ZI Tu.symm];exact ha
    ·have hy2:y ∈ p::r:=by simp only[ZC] at hy ⊢;exact hy.resolve_left hyz
     have hkp:ax K p (dB z (K p)) p≠[]:=by rw[show ax K p (dB z (K p)) p=dB z (K p) from ZP rfl];exact hK
     obtain⟨g1,_⟩:=jB (x:=z) NX (λq j _=>F q j) (ZD.1 (ZD.1 hn).2).1 (λ_=>.inr hkp);refine⟨λe=>az e hyz,λg=>az (.inr ?_) g⟩;simp only[ZC] at hy2;rcases hy2 with hy2|hy2
     ·rw[hy2];exact hkp
     ·exact g1 y (by simpa using hy2)
   ·have hj:j ∈ ax K p (dB z (K p)) q:=hj;unfold ax at hj;split at hj
    ·rename_i e;rw[e];exact(gg.1 hj).1
    ·exact hj
   ·simp only[List.tail_cons,ZC,not_or] at g2;exact ZI g2.1
end
theorem uM:∀{xs:List Int} {K:Int->List Int} {j:Int},j≠0->j ∉ xs.tail->(bp K xs).2 j=K j
 | [],_,_,_,_=>rfl
 | [z],_,j,h,_=>ZI h
 | z::p::r,K,j,h,h2=>by
  simp only[List.tail_cons,ZC,not_or] at h2;unfold bp;split
  ·exact(uM (xs:=p::r) h h2.2).trans (ZI h2.1)
  ·exact ZI h2.1
structure mO (L:List CD):Prop where
 nz:fc L 0=none
 par:∀i c,fc L i=some c->c.par=0\/∃d,fc L c.par=some d/\d.lf=false/\(eV c=true->eV d=true)
 rk:∃rk:Int->Nat,∀i c,fc L i=some c->rk i<=900/\(c.par≠0->rk c.par<rk i)
 cls:∀c ∈ L,Go.Proofs.YtfdlemkplejdnaaGreat.kd c.r0 c.r1 c.r2≠0/\(Go.Proofs.YtfdlemkplejdnaaGreat.kd c.l0 c.l1 c.l2≠0/\Go.Proofs.YtfdlemkplejdnaaGreat.kd c.l0 c.l1 c.l2≠4)/\Go.Proofs.YtfdlemkplejdnaaGreat.kd c.u0 c.u1 c.u2≠0
 len:L.length<=64
 ids:∀c ∈ L,fc L c.id=some c
theorem fD {L:List CD} {i:Int} {c:CD} (h:fc L i=some c):c ∈ L/\c.id=i:=by
 induction L with
 | nil=>cases h
 | cons a r ih=>exact ηE
structure kL (L:List CD) (i:Int) (xs:List Int):Prop where
 up:dy L i xs
 len:xs.length<=1000
 nd:(0::xs).Nodup
 sh:(∀c,fc L i=some c->eV c=true)->cf L i xs
 ne:xs≠[]
 hd:i ∈ xs
 inn:∀y ∈ xs.tail,∃d,fc L y=some d/\d.lf=false
theorem mO.path {L:List CD} (h:mO L) {i:Int} {c:CD} (hc:fc L i=some c):∃xs,kL L i xs:=by
 obtain⟨rk,hr⟩:=h.rk;have main:∀n i c,fc L i=some c->rk i<=n->∃xs,dy L i xs/\xs.length<=n+1/\(0::xs).Nodup/\(eV c=true->cf L i xs)/\(∀y ∈ xs,y=i\/rk y<rk i)/\(∃r,xs=i::r/\∀y ∈ r,∃d,fc L y=some d/\d.lf=false):=by
  intro n
  induction n with
  | zero=>
   intro i c hc hn;have pz:(0:Int)≠i:=λe=>by rw[<- e,h.nz] at hc;cases hc
   rcases h.par i c hc with h0|⟨d,hd,hl,hs⟩
   ·exact ηh
   ·have h0:c.par≠0:=λe=>by rw[e,h.nz] at hd;cases hd
    have:=(hr i c hc).2 h0;omega
  | succ n ih=>
   intro i c hc hn;have pz:(0:Int)≠i:=λe=>by rw[<- e,h.nz] at hc;cases hc
   rcases h.par i c hc with h0|⟨d,hd,hl,hs⟩
   ·exact ηh
   ·have h0:c.par≠0:=λe=>by rw[e,h.nz] at hd;cases hd
    have JM:=(hr i c hc).2 h0;obtain⟨xs,g1,g2,g3,g4,g5,r,g6,g7⟩:=ih c.par d hd ρa;refine⟨i::xs,⟨c,hc,rfl,g1⟩,by simp;omega,?_,λs=>⟨rfl,c,hc,s,g4 (hs s)⟩,λy hy=>?_,xs,rfl,λy hy=>?_⟩
    ·rw[ZD] at g3 ⊢;rw[ZD];refine⟨?_,λhi=>?_,g3.2⟩
     ·simp only[ZC,not_or];exact⟨pz,g3.1⟩
     ·rcases g5 i hi with e|e
      ·rw[e] at JM;omega
      ·omega
    ·rcases ZC.1 hy with e|e
     ·exact .inl e
     ·rcases g5 y e with e|e
      ·right;rw[e];exact JM
      ·right;omega
    ·rw[g6] at hy;rcases ZC.1 hy with e|e
     ·rw[e];exact⟨d,hd,hl⟩
     ·exact g7 y e
 obtain⟨xs,g1,g2,g3,g4,g5,r,g6,g7⟩:=main (rk i) i c hc (ZR _);have:=(hr i c hc).1;exact⟨xs,g1,by omega,g3,λs=>g4 (s c hc),by rw[g6];simp,by rw[g6];simp,by rw[g6];exact g7⟩
def SS.okk (s:SS)(j:Int):Prop:=∀p,s.kd p j=if j ∈ s.A.K p then some ((s.e j).sh.t,s.fit j) else none
theorem eJ {A:AS} {j:Int}:A.is j=true↔A.on j=true\/A.K j≠[]:=by unfold AS.is;simp only[Bool.or_eq_true,decide_eq_true_eq,List.length_pos_iff]
theorem SS.fit_same {s t:SS} {j:Int} (h1:(t.e j).c.lf=(s.e j).c.lf)(h2:t.A.is j=s.A.is j)(h3:(t.e j).cp.t=(s.e j).cp.t)(h4:t.kd j=s.kd j):t.fit j=s.fit j:=by unfold SS.fit;rw[h1,h2,h3,h4]
theorem nI:∀{xs:List Int} {s:SS} {i:Int},dy s.L i xs->xs.Nodup->(∀y c,fc s.L y=some c->(s.e y).c=c)->nX s.L s.A.on s.A.K->(∀j c,fc s.L j=some c->s.A.is j=true->eV c=true)->(∀j,j ∉ xs->s.okk j)->(∀j ∈ xs,∀p,(p≠(s.e j).c.par\/s.A.is j=false)->s.kd p j=none)->∀j,(s.settle xs).okk j
 | [],s,i,_,_,_,_,_,h,_,j=>h j ρp
 | x::r,s,i,hu,hn,VX,hK,hact,h1,h2,j=>by
  obtain⟨c,hc,rfl,hur⟩:=hu;rw[ZD] at hn;have Kc:=VX x c hc;have Kt:∀y,y=c.par->y ∈ r\/fc s.L y=none:=by
   rintro y rfl;cases r with
   | nil=>exact .inr hur
   | cons z r=>obtain⟨_,_,e,_⟩:=hur;exact .inl (by simp[e])
  have Qe:c.par≠x:=λe=>by
   rcases Kt x e.symm with g|g
   ·exact hn.1 g
   ·rw[g] at hc;cases hc
  have SL:∀q k,fc s.L k=none->k ∉ s.A.K q:=λq k hk hm=>by obtain⟨d,hd,_⟩:=(hK q k).1 hm;rw[hk] at hd;cases hd
  have key:(∀k,k ∉ r->(s.settle1 x).okk k)/\(∀k,k≠x->∀q,(s.settle1 x).kd q k=s.kd q k)/\(s.settle1 x).L=s.L/\(s.settle1 x).e=s.e/\(s.settle1 x).A=s.A:=by
   unfold SS.settle1;split
   ·rename_i ha;refine⟨λk hk p=>?_,λk hk q=>?_,rfl,rfl,rfl⟩
    ·simp only[Kc];by_cases hkx:k=x
     ·subst hkx;by_cases hp:p=c.par
      ·subst hp;have hm:k ∈ s.A.K c.par:=(hK _ _).2 ⟨c,hc,rfl,hact k c hc ha,eJ.1 ha⟩;rw[ZP hm];show (if c.par=c.par then _ else _:TM) k=_;rw[ZP rfl];unfold aO;rw[ZP rfl]
       congr 2
       symm;exact SS.fit_same rfl rfl rfl (by show ax s.kd c.par _ k=_;exact ZI (λe=>Qe e.symm))
      ·have hm:k ∉ s.A.K p:=λhm=>by
        obtain⟨d,hd,e,_⟩:=(hK p k).1 hm;rw[hc] at hd;cases hd;exact hp e.symm
       rw[ZI hm];show (if p=c.par then _ else s.kd p:TM) k=_;rw[ZI hp];exact h2 k ρp p (.inl (by rw[Kc];exact hp))
     ·have hko:=h1 k (by simp[hkx,hk]);have e1:(ax s.kd c.par (aO (s.kd c.par) x (some ((s.e x).sh.t,s.fit x)))) p k=s.kd p k:=by
       unfold ax;split
       ·rename_i e;rw[e];exact ZI hkx
       ·rfl
      rw[e1,hko p];by_cases hm:k ∈ s.A.K p
      ·rw[ZP hm,ZP hm]
       congr 2
       symm;exact SS.fit_same rfl rfl rfl (by
        show ax s.kd c.par _ k=_;exact ZI (λe=>by
         rcases Kt k e with g|g
         ·exact hk g
         ·exact SL p k g hm))
      ·rw[ZI hm,ZI hm]
    ·simp only[Kc];unfold ax;split
     ·rename_i e;rw[e];exact ZI hk
     ·rfl
   ·rename_i ha;refine⟨λk hk=>?_,λ_ _ _=>rfl,rfl,rfl,rfl⟩;by_cases hkx:k=x
    ·subst hkx;intro p;have hm:k ∉ s.A.K p:=λhm=>by
      obtain⟨d,hd,e,_,g⟩:=(hK p k).1 hm;exact ha (eJ.2 g)
     rw[ZI hm];exact h2 k ρp p (.inr (by simpa using ha))
    ·exact h1 k (by simp[hkx,hk])
  obtain⟨k1,k2,e1,e2,e3⟩:=key;refine nI (s:=s.settle1 x) (xs:=r) (i:=c.par) (by rw[e1];exact hur) hn.2 (by rw[e1,e2];exact VX) (by rw[e1,e3];exact hK) (by rw[e1,e3];exact hact) k1 (λk hk p hp=>?_) j;rw[e2,e3] at hp;rw[k2 k (λe=>hn.1 (e ▸ hk)) p];exact h2 k (by simp[hk]) p hp
theorem fI (s:SS)(xs:List Int):(s.settle xs).L=s.L/\(s.settle xs).e=s.e/\(s.settle xs).A=s.A/\(s.settle xs).lv=s.lv/\(s.settle xs).clk=s.clk/\(s.settle xs).acc=s.acc/\(s.settle xs).T=s.T/\(s.settle xs).Lm=s.Lm:=by
 induction xs generalizing s with
 | nil=>exact⟨rfl,rfl,rfl,rfl,rfl,rfl,rfl,rfl⟩
 | cons x r ih=>
  have e:(s.settle1 x).L=s.L/\(s.settle1 x).e=s.e/\(s.settle1 x).A=s.A/\(s.settle1 x).lv=s.lv/\(s.settle1 x).clk=s.clk/\(s.settle1 x).acc=s.acc/\(s.settle1 x).T=s.T/\(s.settle1 x).Lm=s.Lm:=by unfold SS.settle1;split<;>exact⟨rfl,rfl,rfl,rfl,rfl,rfl,rfl,rfl⟩
  obtain⟨h1,h2,h3,h4,h5,h6,h7,h8⟩:=ih (s.settle1 x);obtain⟨g1,g2,g3,g4,g5,g6,g7,g8⟩:=e;exact⟨h1.trans g1,h2.trans g2,h3.trans g3,h4.trans g4,h5.trans g5,h6.trans g6,h7.trans g7,h8.trans g8⟩
def SS.okl (s:SS)(j:Int):Prop:=s.lv j=match fc s.L j with
 | some c=>if c.lf=true/\SS.real c=true/\(s.e j).q≠[] then some ((s.e j).du.e,(s.e j).du.t) else none
 | none=>none
structure SS.Inv (s:SS):Prop where
 lok:mO s.L
 ec:∀i c,fc s.L i=some c->(s.e i).c=c
 on:∀i,s.A.on i=true↔∃c,fc s.L i=some c/\c.lf=true/\eV c=true/\(s.e i).q≠[]
 kk:nX s.L s.A.on s.A.K
 kd:∀j,s.okk j
 lv:∀j,s.okl j
section
variable {s t:SS}
theorem SS.Inv.leaf (h:s.Inv) {i:Int} {c:CD} (hc:fc s.L i=some c)(hl:c.lf=true):s.A.K i=[]:=by
 cases e:s.A.K i with
 | nil=>rfl
 | cons k r=>
  have hk:k ∈ s.A.K i:=by rw[e];simp
  obtain⟨d,hd,hp,_⟩:=(h.kk i k).1 hk;rcases h.lok.par k d hd with e|⟨d',Pd,hl',_⟩
  ·rw[<- hp,e,h.lok.nz] at hc;cases hc
  ·rw[hp,hc] at Pd;cases Pd;rw[hl] at hl';cases hl'
theorem SS.Inv.wf (h:s.Inv):s.Wf:=by
 refine⟨λc hc=>?_,h.lok.nz,λp j hj=>?_,λc hc=>?_,h.ec,λj hj=>?_,h.lok.cls,by have:=h.lok.len;omega⟩
 ·unfold bR;rcases h.lok.par c.id c (h.lok.ids c hc) with e|⟨d,hd,hl,_⟩
  ·simp[e]
  ·rw[hd];simp[hl]
 ·rw[h.kd j p] at hj;by_cases hm:j ∈ s.A.K p
  ·obtain⟨c,hc,hp,_⟩:=(h.kk p j).1 hm;exact⟨c,hc,hp⟩
  ·rw[ZI hm] at hj;exact az rfl hj
 ·obtain⟨xs,P⟩:=h.lok.path (h.lok.ids c hc);exact⟨xs,P.up,P.len⟩
 ·have:=h.lv j;unfold SS.okl at this;cases hc:fc s.L j with
  | none=>rw[hc] at this;exact az this hj
  | some c=>
   rw[hc] at this;by_cases g:c.lf=true/\SS.real c=true/\(s.e j).q≠[]
   ·exact⟨c,rfl,g.1⟩
   ·simp only[ZI g] at this;exact az this hj
theorem SS.Inv.same (h:s.Inv)(hL:t.L=s.L)(hA:t.A=s.A)(hk:t.kd=s.kd)(hl:t.lv=s.lv)(he:∀j,(t.e j).c=(s.e j).c/\((t.e j).q=[]↔(s.e j).q=[])/\(t.e j).sh.t=(s.e j).sh.t/\(t.e j).cp.t=(s.e j).cp.t/\(t.e j).du.e=(s.e j).du.e/\(t.e j).du.t=(s.e j).du.t):t.Inv:=by
 refine⟨hL ▸ h.lok,λi c hc=>?_,λi=>?_,by rw[hL,hA];exact h.kk,λj p=>?_,λj=>?_⟩
 ·rw[(he i).1];exact h.ec i c (hL ▸ hc)
 ·rw[hA,hL,h.on i];constructor<;>rintro⟨c,h1,h2,h3,h4⟩
  ·exact⟨c,h1,h2,h3,λe=>h4 ((he i).2.1.1 e)⟩
  ·exact⟨c,h1,h2,h3,λe=>h4 ((he i).2.1.2 e)⟩
 ·rw[hA,hk,h.kd j p,(he j).2.2.1,SS.fit_same (t:=t) (s:=s) (by rw[(he j).1]) (by rw[hA]) (he j).2.2.2.1 (by rw[hk])]
 ·have:=h.lv j;unfold SS.okl at this ⊢;rw[hl,hL,this];cases fc s.L j with
  | none=>rfl
  | some c=>simp only[ne_eq,(he j).2.1,(he j).2.2.2.2.1,(he j).2.2.2.2.2]
end
theorem Di {L:List CD} {A:AS} (lok:mO L)(q:Int->List PK)(on:∀i,A.on i=true↔∃c,fc L i=some c/\c.lf=true/\eV c=true/\q i≠[])(kk:nX L A.on A.K):∀j c,fc L j=some c->A.is j=true->eV c=true:=by
 intro j c hc hj;rcases eJ.1 hj with g|g
 ·obtain⟨d,hd,_,hs,_⟩:=(on j).1 g;rw[hc] at hd;cases hd;exact hs
 ·obtain⟨k,hk⟩:=List.exists_mem_of_ne_nil _ g;obtain⟨d,hd,hp,hs,_⟩:=(kk j k).1 hk;rcases lok.par k d hd with e|⟨d',Pd,_,hs'⟩
  ·rw[<- hp,e,lok.nz] at hc;cases hc
  ·rw[hp,hc] at Pd;cases Pd;exact hs' hs
theorem qD {L:List CD}:∀{xs:List Int} {i:Int},dy L i xs->∀y ∈ xs,∀c,fc L y=some c->c.par ∈ xs.tail\/fc L c.par=none
 | [],_,_,y,h,_,_=>by simp at h
 | [z],i,⟨c,h1,h2,h3⟩,y,h,d,hd=>by simp only[ZS] at h;subst h;subst h2;rw[h1] at hd;cases hd;exact .inr h3
 | z::p::r,i,⟨c,h1,h2,h3⟩,y,h,d,hd=>by
  obtain⟨c',k1,k2,k3⟩:=h3;rcases ZC.1 h with h|h
  ·subst h;subst h2;rw[h1] at hd;cases hd;exact .inl (by simp[k2])
  ·rcases qD (xs:=p::r) ⟨c',k1,k2,k3⟩ y h d hd with g|g
   ·exact .inl (by simp only[List.tail_cons] at g ⊢;exact sA _ g)
   ·exact .inr g
section
variable {s u:SS} {i:Int} {xs:List Int}
theorem SS.Inv.rebuild (h:s.Inv)(P:kL s.L i xs)(hL:u.L=s.L)(VX:∀i c,fc s.L i=some c->(u.e i).c=c)(MT:∀i,u.A.on i=true↔∃c,fc s.L i=some c/\c.lf=true/\eV c=true/\(u.e i).q≠[])(hkk:nX s.L u.A.on u.A.K)(hlv:∀j,u.okl j)
  (Qw:∀j,j≠0->j ∉ xs->u.A.on j=s.A.on j/\u.A.K j=s.A.K j/\(u.e j).cp.t=(s.e j).cp.t/\(∀p,j ∈ s.A.K p->(u.e j).sh.t=(s.e j).sh.t)/\u.kd j=s.kd j)
  (hkd:∀p j,j ∉ xs->u.kd p j=s.kd p j) (Np:∀j ∈ xs,∀p,u.kd p j=none\/u.kd p j=s.kd p j) (hina:∀j ∈ xs,u.A.is j=false->∀p,u.kd p j=none):(u.settle xs).Inv:=by
 obtain⟨e1,e2,e3,e4,_⟩:=fI u xs;have SL:∀(A:AS),nX s.L A.on A.K->∀q k,fc s.L k=none->k ∉ A.K q:=λA hA q k hk hm=>by obtain⟨d,hd,_⟩:=(hA q k).1 hm;rw[hk] at hd;cases hd
 have ok:∀j,(u.settle xs).okk j:=by
  refine nI (i:=i) (by rw[hL];exact P.up) (ZD.1 P.nd).2 (by rw[hL];exact VX) (by rw[hL];exact hkk) (by rw[hL];exact Di h.lok (λi=>(u.e i).q) MT hkk) (λj hj p=>?_) (λj hj p hp=>?_)
  ·rw[hkd p j hj,h.kd j p];cases hc:fc s.L j with
   | none=>rw[ZI (SL _ h.kk p j hc),ZI (SL _ hkk p j hc)]
   | some c=>
    have hj0:j≠0:=λe=>by rw[e,h.lok.nz] at hc;cases hc
    obtain⟨g1,g2,g3,g4,g5⟩:=Qw j hj0 hj;have iff:j ∈ u.A.K p↔j ∈ s.A.K p:=by rw[hkk p j,h.kk p j,g1,g2]
    by_cases hm:j ∈ s.A.K p
    ·rw[ZP hm,ZP (iff.2 hm),g4 p hm,SS.fit_same (t:=u) (s:=s) (by rw[VX j c hc,h.ec j c hc]) (by unfold AS.is;rw[g1,g2]) g3 g5]
    ·rw[ZI hm,ZI (λg=>hm (iff.1 g))]
  ·rcases hp with hp|hp
   ·rcases Np j hj p with g|g
    ·exact g
    ·rw[g,h.kd j p,ZI];intro hm;obtain⟨d,hd,e,_⟩:=(h.kk p j).1 hm;rw[VX j d hd] at hp;exact hp e.symm
   ·exact hina j hj hp p
 refine⟨by rw[e1,hL];exact h.lok,by rw[e1,e2,hL];exact VX,by rw[e1,e2,e3,hL];exact MT,by rw[e1,e3,hL];exact hkk,ok,λj=>?_⟩;have:=hlv j;unfold SS.okl at this ⊢;rw[e1,e2,e4];exact this
end
section
variable {s:SS} {i:Int} {xs:List Int} {c:CD}
theorem lP (len:Int)(b:Bool):(s.due i len b).L=s.L/\(s.due i len b).A=s.A/\(s.due i len b).kd=s.kd/\(∀j,((s.due i len b).e j).c=(s.e j).c/\((s.due i len b).e j).q=(s.e j).q/\((s.due i len b).e j).sh=(s.e j).sh/\((s.due i len b).e j).cp=(s.e j).cp/\((s.due i len b).e j).tot=(s.e j).tot/\(j≠i->((s.due i len b).e j).du=(s.e j).du/\(s.due i len b).lv j=s.lv j))/\(s.due i len b).clk=s.clk/\(s.due i len b).acc=s.acc/\(s.due i len b).T=s.T/\(s.due i len b).Lm=s.Lm:=by
 have ee:∀(l:LF) j,((s.duesTo i l).e j).c=(s.e j).c/\((s.duesTo i l).e j).q=(s.e j).q/\((s.duesTo i l).e j).sh=(s.e j).sh/\((s.duesTo i l).e j).cp=(s.e j).cp/\((s.duesTo i l).e j).tot=(s.e j).tot/\(j≠i->((s.duesTo i l).e j).du=(s.e j).du/\(s.duesTo i l).lv j=s.lv j):=λl j=>by unfold SS.duesTo SS.setE ax aO;exact ηf
 unfold SS.due;split
 ·dsimp only;split
  ·refine⟨rfl,rfl,rfl,λj=>?_,rfl,rfl,rfl,rfl⟩;obtain⟨h1,h2,h3,h4,h5,h6⟩:=ee (if b then (s.e i).du.took len (av (s.e i).q) else (s.e i).du.headed (av (s.e i).q)) j;refine⟨h1,h2,h3,h4,h5,λhj=>⟨(h6 hj).1,?_⟩⟩;exact(show aO _ i none j=_ from ZI hj).trans (h6 hj).2
  ·exact⟨rfl,rfl,rfl,ee _,rfl,rfl,rfl,rfl⟩
 ·exact⟨rfl,rfl,rfl,λj=>⟨rfl,rfl,rfl,rfl,rfl,λ_=>⟨rfl,rfl⟩⟩,rfl,rfl,rfl,rfl⟩
theorem AW (len:Int)(b:Bool)(hc:fc s.L i=some c)(Kc:(s.e i).c=c)(hl:c.lf=true)(h0:SS.real c=false->s.lv i=none):(s.due i len b).okl i:=by
 obtain⟨h1,_,_,h4,_⟩:=lP (s:=s) (i:=i) len b;have h4:=h4 i;unfold SS.okl;rw[h1,hc];simp only[];rw[h4.2.1];unfold SS.due;rw[Kc];cases hr:SS.real c with
 | false=>simp only[Bool.false_eq_true,if_false,false_and,and_false];exact h0 hr
 | true=>
  by_cases hq:(s.e i).q=[]
  ·simp[hl,hq,aO]
  ·simp[hl,hq,SS.duesTo,SS.setE,ax,aO]
theorem ru (s:SS)(y:Int):(s.sleep1 y).clk=s.clk/\(s.sleep1 y).acc=s.acc/\(s.sleep1 y).T=s.T/\(s.sleep1 y).Lm=s.Lm/\(∀j,((s.sleep1 y).e j).cp=(s.e j).cp/\((s.sleep1 y).e j).du=(s.e j).du/\((s.sleep1 y).e j).tot=(s.e j).tot)/\(∀p j,(s.sleep1 y).kd p j=if j=y/\p=(s.e y).c.par then none else s.kd p j)/\(∀p j,(s.e j).c.par=p->(s.sleep1 y).kd p j≠none->(s.sleep1 y).e j=s.e j):=by
 unfold SS.sleep1;refine⟨rfl,rfl,rfl,rfl,λj=>?_,λp j=>?_,λp j hp hn=>?_⟩
 ·dsimp only;split
  ·dsimp only;split<;>exact⟨rfl,rfl,rfl⟩
  ·exact⟨rfl,rfl,rfl⟩
 ·dsimp only;unfold ax aO;by_cases h1:p=(s.e y).c.par
  ·subst h1;simp
  ·simp[h1]
 ·dsimp only at hn ⊢;split
  ·rename_i J9;dsimp only;split
   ·rename_i hj;rw[hj.2] at hp;rw[<- hp,show ax s.kd (s.e y).c.par (aO (s.kd (s.e y).c.par) y none) (s.e y).c.par=aO (s.kd (s.e y).c.par) y none from ZP rfl] at hn;exact az (J9 j) hn
   ·rfl
  ·rfl
theorem iD:∀(ys:List Int)(s:SS),(ys.foldl SS.sleep1 s).L=s.L/\(ys.foldl SS.sleep1 s).A=s.A/\(ys.foldl SS.sleep1 s).lv=s.lv/\(∀j,((ys.foldl SS.sleep1 s).e j).c=(s.e j).c/\((ys.foldl SS.sleep1 s).e j).q=(s.e j).q/\((ys.foldl SS.sleep1 s).e j).cp=(s.e j).cp/\((ys.foldl SS.sleep1 s).e j).du=(s.e j).du/\((ys.foldl SS.sleep1 s).e j).tot=(s.e j).tot)/\(∀p j,(ys.foldl SS.sleep1 s).kd p j=if j ∈ ys/\p=(s.e j).c.par then none else s.kd p j)/\(∀p j,(s.e j).c.par=p->(ys.foldl SS.sleep1 s).kd p j≠none->(ys.foldl SS.sleep1 s).e j=s.e j)/\((ys.foldl SS.sleep1 s).clk=s.clk/\(ys.foldl SS.sleep1 s).acc=s.acc/\(ys.foldl SS.sleep1 s).T=s.T/\(ys.foldl SS.sleep1 s).Lm=s.Lm)
 | [],s=>⟨rfl,rfl,rfl,λ_=>⟨rfl,rfl,rfl,rfl,rfl⟩,λp j=>by simp,λ_ _ _ _=>rfl,rfl,rfl,rfl,rfl⟩
 | y::r,s=>by
  obtain⟨h1,h2,h3,h4,h5,h6,h7⟩:=iD r (s.sleep1 y);obtain⟨g1,g2,g3,g4,_⟩:=fJ s y;obtain⟨m1,m2,m3,m4,m5,m6,m7⟩:=ru s y;simp only[List.foldl_cons];have kdeq:∀p j,(r.foldl SS.sleep1 (s.sleep1 y)).kd p j=if j ∈ y::r/\p=(s.e j).c.par then none else s.kd p j:=λp j=>by
   rw[h5,m6,(g2 j).1];by_cases a:j ∈ r/\p=(s.e j).c.par
   ·rw[ZP a,ZP ⟨by simp[a.1],a.2⟩]
   ·rw[ZI a];by_cases b:j=y/\p=(s.e y).c.par
    ·rw[ZP b,ZP ⟨by simp[b.1],by rw[b.1];exact b.2⟩]
    ·rw[ZI b,ZI];rintro⟨hm,hp⟩;rcases ZC.1 hm with e|e
     ·exact b ⟨e,by rw[<- e];exact hp⟩
     ·exact a ⟨e,hp⟩
  refine⟨h1.trans g1,h2.trans g4,h3.trans g3,λj=>⟨(h4 j).1.trans (g2 j).1,(h4 j).2.1.trans (g2 j).2,(h4 j).2.2.1.trans (m5 j).1,(h4 j).2.2.2.1.trans (m5 j).2.1,(h4 j).2.2.2.2.trans (m5 j).2.2⟩,kdeq,λp j hp hn=>?_,h7.1.trans m1,h7.2.1.trans m2,h7.2.2.1.trans m3,h7.2.2.2.trans m4⟩;rw[h6 p j (by rw[(g2 j).1];exact hp) hn];refine m7 p j hp (λe=>hn ?_);rw[h5,e];split<;>rfl
theorem SS.Inv.take {now:Int} {b:Bool} {p:PK} {r:List PK} (h:s.Inv)(hc:fc s.L i=some c)(hl:c.lf=true)(hq:(s.e i).q=p::r)(P:kL s.L i xs):(s.take now i b xs).Inv:=by
 rw[pi hq];obtain⟨s1,KI⟩:=Nq (xs.foldl (SS.take1 p.len) (({s with clk:=now}:SS).setE i {s.e i with q:=r}));rw[KI];have f:=gX p.len xs (({s with clk:=now}:SS).setE i {s.e i with q:=r});rw[KI] at f;obtain⟨f1,f2,f3,f4,f5⟩:=f;have f6:∀j,j ∉ xs->s1.e j=s.e j:=λj hj=>by rw[<- KI,iJ hj];have NV:j≠i:=λe=>hj (by rw[e];exact P.hd);exact ZI NV
 have fe:∀j,((({s with clk:=now}:SS).setE i {s.e i with q:=r}).e j).c=(s.e j).c/\((({s with clk:=now}:SS).setE i {s.e i with q:=r}).e j).q=(if j=i then r else (s.e j).q)/\((({s with clk:=now}:SS).setE i {s.e i with q:=r}).e j).du=(s.e j).du:=λj=>by unfold SS.setE ax;exact ηf
 have Kc:=h.ec i c hc;obtain⟨d1,d2,d3,d4,_⟩:=lP (s:=s1) (i:=i) p.len b;have L1:s1.L=s.L:=f1;have A1:s1.A=s.A:=f3;have K1:s1.kd=s.kd:=f2;have V1:s1.lv=s.lv:=f4;have TE:∀j,(s1.due i p.len b).okl j:=λj=>by
  by_cases hj:j=i
  ·subst hj;refine AW p.len b (by rw[L1];exact hc) (((f5 j).1.trans (fe j).1).trans Kc) hl (λhr=>?_);have:=h.lv j;unfold SS.okl at this;rw[hc] at this;rw[V1,this];simp[hr]
  ·have:=h.lv j;unfold SS.okl at this ⊢;rw[d1,L1,((d4 j).2.2.2.2.2 hj).2,V1,this,(d4 j).2.1,(f5 j).2.1,(fe j).2.1,ZI hj,((d4 j).2.2.2.2.2 hj).1,(f5 j).2.2,(fe j).2.2]
 have ec2:∀j c,fc s.L j=some c->((s1.due i p.len b).e j).c=c:=λj c hc=>by rw[(d4 j).1,(f5 j).1,(fe j).1];exact h.ec j c hc
 have q2:∀j,((s1.due i p.len b).e j).q=if j=i then r else (s.e j).q:=λj=>by rw[(d4 j).2.1,(f5 j).2.1,(fe j).2.1]
 have e2:∀j,j ∉ xs->((s1.due i p.len b).e j).sh=(s.e j).sh/\((s1.due i p.len b).e j).cp=(s.e j).cp:=λj hj=>by rw[(d4 j).2.2.1,(d4 j).2.2.2.1,f6 j hj];exact⟨rfl,rfl⟩
 obtain⟨s2,Ki⟩:=Nq (s1.due i p.len b);rw[Ki] at TE ec2 q2 e2 d1 d2 d3 ⊢;have L2:s2.L=s.L:=d1.trans L1;have A2:s2.A=s.A:=d2.trans A1;have K2:s2.kd=s.kd:=d3.trans K1;have plain:(∀i',s.A.on i'=true↔∃c,fc s.L i'=some c/\c.lf=true/\eV c=true/\(s2.e i').q≠[])->(s2.settle xs).Inv:=λMT=>by refine h.rebuild P L2 ec2 (by rw[A2];exact MT) (by rw[A2];exact h.kk) TE (λj _ hj=>⟨by rw[A2],by rw[A2],by rw[(e2 j hj).2],λ_ _=>by rw[(e2 j hj).1],by rw[K2]⟩) (λp j _=>by rw[K2]) (λj _ p=>.inr (by rw[K2])) (λj hj hi p=>?_);rw[K2,h.kd j p,ZI];intro hm;obtain⟨d,hd,_,_,g⟩:=(h.kk p j).1 hm;rw[A2,eJ.2 g] at hi;cases hi
 by_cases hr:(s2.e i).q=[]
 ·rw[ZP hr];have Ns:r=[]:=by have:=q2 i;rw[ZP rfl,hr] at this;exact this.symm
  unfold SS.sleep;rw[ec2 i c hc,A2];by_cases Ul:eV c=true/\s.A.is i=true
  ·rw[ZP Ul];have LS:=P.sh (λd hd=>by rw[hc] at hd;cases hd;exact Ul.1);have oni:∀y ∈ xs.tail,ax s.A.on i false y=false:=λy hy=>by
    unfold ax;split
    ·rfl
    ·cases ho:s.A.on y with
     | false=>rfl
     | true=>obtain⟨d,hd,MF,_⟩:=(h.on y).1 ho;obtain⟨d',Pd,RC⟩:=P.inn y hy;rw[hd] at Pd;cases Pd;rw[MF] at RC;cases RC
   have hK0:s.A.K i=[]:=h.leaf hc hl;have KO1:pu s.L (ax s.A.on i false) s.A.K i:=λq j hj=>by rw[h.kk q j,show ax s.A.on i false j=s.A.on j from ZI hj]
   obtain⟨o1,o2,o3,o4⟩:=qq h.lok.nz LS P.ne P.nd oni KO1 (λd hd q hm=>by
    obtain⟨d',Pd,e,_⟩:=(h.kk q i).1 hm;rw[hd] at Pd;cases Pd;exact e.symm) (by
     rw[show ax s.A.on i false i=false from ZP rfl,hK0];rintro(g|g)
     ·cases g
     ·exact g rfl)
   obtain⟨s3,MI⟩:=Nq ({s2 with A:=⟨ax s.A.on i false,(aT s.A.K xs).2⟩}:SS);have a3:s3.L=s.L/\s3.e=s2.e/\s3.A=⟨ax s.A.on i false,(aT s.A.K xs).2⟩/\s3.lv=s2.lv/\s3.kd=s.kd:=by rw[<- MI];exact⟨L2,rfl,rfl,rfl,K2⟩
   obtain⟨a31,TW,UO,a34,VP⟩:=a3;rw[MI];obtain⟨z1,z2,z3,z4,z5,z6,_⟩:=iD (aT s.A.K xs).1 s3;obtain⟨u,hu⟩:=Nq ((aT s.A.K xs).1.foldl SS.sleep1 s3);rw[hu] at z1 z2 z3 z4 z5 z6 ⊢;have par3:∀j d,fc s.L j=some d->(s3.e j).c.par=d.par:=λj d hd=>by rw[TW,ec2 j d hd]
   refine h.rebuild P (z1.trans a31) (λj d hd=>by rw[(z4 j).1,TW];exact ec2 j d hd) (λj=>?_) (by rw[z2,UO];exact o1) (λj=>?_) (λj hj0 hj=>?_) (λq j hj=>?_) (λj hj q=>?_) (λj hj hi q=>?_)
   ·rw[z2,UO,(z4 j).2.1,TW,q2];show ax s.A.on i false j=true↔_;by_cases hj:j=i
    ·subst hj;rw[show ax s.A.on j false j=false from ZP rfl,ZP rfl];exact⟨λg=>(by cases g),λ⟨_,_,_,_,g⟩=>az Ns g⟩
    ·rw[show ax s.A.on i false j=s.A.on j from ZI hj,ZI hj];exact h.on j
   ·have:=TE j;unfold SS.okl at this ⊢;rw[z1,a31,z3,a34,(z4 j).2.1,(z4 j).2.2.2.1,TW,this,L2]
   ·have NV:j≠i:=λe=>hj (e ▸ P.hd);refine⟨by rw[z2,UO];exact ZI NV,by rw[z2,UO];exact o4 j hj0 (λe=>hj (List.mem_of_mem_tail e)),by rw[(z4 j).2.2.1,TW,(e2 j hj).2],λq hm=>?_,funext λk=>?_⟩
    ·obtain⟨d,hd,hdp,_⟩:=(h.kk q j).1 hm;rw[z6 q j (by rw[par3 j d hd];exact hdp) (by
      rw[z5,ZI (λg=>hj (gk j g.1)),VP,h.kd j q,ZP hm];simp),TW,(e2 j hj).1]
    ·rw[z5,VP];by_cases g:k ∈ (aT s.A.K xs).1/\j=(s3.e k).c.par
     ·exfalso;have hk:=gk k g.1;obtain⟨d,hd⟩:=eQ P.up k hk;have hp:=g.2;rw[par3 k d hd] at hp;rcases qD P.up k hk d hd with w|w
      ·exact hj (List.mem_of_mem_tail (hp ▸ w))
      ·rcases h.lok.par k d hd with v|⟨d',Pd,_⟩
       ·exact hj0 (hp.trans v)
       ·rw[w] at Pd;cases Pd
     ·rw[ZI g]
   ·rw[z5,ZI (λg=>hj (gk j g.1)),VP]
   ·rw[z5,VP];split
    ·exact .inl rfl
    ·exact .inr rfl
   ·have hn:j ∈ (aT s.A.K xs).1:=(o2 j hj).2 (λg=>by
     rw[z2,UO] at hi;rw[eJ.2 g] at hi;cases hi)
    rw[z5,VP];by_cases e:q=(s3.e j).c.par
    ·rw[ZP ⟨hn,e⟩]
    ·rw[ZI (λg=>e g.2),h.kd j q,ZI];intro hm;obtain⟨d,hd,hdp,_⟩:=(h.kk q j).1 hm;exact e (by rw[par3 j d hd];exact hdp.symm)
  ·rw[ZI Ul];refine plain (λj=>?_);rw[h.on j,q2];by_cases hj:j=i
   ·subst hj;rw[ZP rfl];constructor
    ·rintro⟨d,hd,g1,g2,g3⟩;rw[hc] at hd;cases hd;exact az ⟨g2,eJ.2 (.inl ((h.on j).2 ⟨c,hc,g1,g2,g3⟩))⟩ Ul
    ·rintro⟨_,_,_,_,g⟩;exact az Ns g
   ·rw[ZI hj]
 ·rw[ZI hr];refine plain (λj=>?_);rw[h.on j,q2];by_cases hj:j=i
  ·subst hj;have Ns:r≠[]:=by have:=q2 j;rw[ZP rfl] at this;rw[<- this];exact hr
   rw[ZP rfl];constructor<;>rintro⟨d,g1,g2,g3,g4⟩
   ·exact⟨d,g1,g2,g3,Ns⟩
   ·exact⟨d,g1,g2,g3,by rw[hq];simp⟩
  ·rw[ZI hj]
end
theorem iU (now:Int):∀(ys:List Int)(s:SS),(ys.foldl (SS.wake1 now) s).L=s.L/\(ys.foldl (SS.wake1 now) s).A=s.A/\(ys.foldl (SS.wake1 now) s).lv=s.lv/\(ys.foldl (SS.wake1 now) s).kd=s.kd/\(∀j,((ys.foldl (SS.wake1 now) s).e j).c=(s.e j).c/\((ys.foldl (SS.wake1 now) s).e j).q=(s.e j).q/\((ys.foldl (SS.wake1 now) s).e j).du=(s.e j).du/\((ys.foldl (SS.wake1 now) s).e j).tot=(s.e j).tot/\(j ∉ ys->(ys.foldl (SS.wake1 now) s).e j=s.e j))/\(ys.foldl (SS.wake1 now) s).clk=s.clk/\(ys.foldl (SS.wake1 now) s).acc=s.acc/\(ys.foldl (SS.wake1 now) s).T=s.T/\(ys.foldl (SS.wake1 now) s).Lm=s.Lm
 | [],s=>⟨rfl,rfl,rfl,rfl,λ_=>⟨rfl,rfl,rfl,rfl,λ_=>rfl⟩,rfl,rfl,rfl,rfl⟩
 | y::r,s=>by
  obtain⟨h1,h2,h3,h4,h5,h6,h7,h8,h9⟩:=iU now r (s.wake1 now y);have g:∀j,((s.wake1 now y).e j).c=(s.e j).c/\((s.wake1 now y).e j).q=(s.e j).q/\((s.wake1 now y).e j).du=(s.e j).du/\((s.wake1 now y).e j).tot=(s.e j).tot/\(j≠y->(s.wake1 now y).e j=s.e j):=λj=>by
   unfold SS.wake1 SS.setE ax;simp only[];by_cases hj:j=y
   ·subst hj;simp
   ·simp[hj]
  refine⟨h1,h2,h3,h4,λj=>⟨(h5 j).1.trans (g j).1,(h5 j).2.1.trans (g j).2.1,(h5 j).2.2.1.trans (g j).2.2.1,(h5 j).2.2.2.1.trans (g j).2.2.2.1,λhj=>?_⟩,h6,h7,h8,h9⟩;simp only[ZC,not_or] at hj;exact((h5 j).2.2.2.2 hj.2).trans ((g j).2.2.2.2 hj.1)
section
variable {s:SS} {i:Int} {xs:List Int} {c:CD}
theorem SS.Inv.wake {s1:SS} {now:Int} {p:PK} {len:Int} (h:s.Inv)(hc:fc s.L i=some c)(hl:c.lf=true)(hq:(s.e i).q=[])(P:kL s.L i xs)(h1:s1.L=s.L/\s1.A=s.A/\s1.kd=s.kd/\s1.lv=s.lv/\(∀j,j≠i->s1.e j=s.e j)/\(s1.e i).c=c/\(s1.e i).q=[p]/\(s1.e i).sh=(s.e i).sh/\(s1.e i).cp=(s.e i).cp):(s1.wake now i len xs).Inv:=by
 obtain⟨L1,A1,K1,V1,E1,C1,Q1,S1,P1⟩:=h1
 -- the dues
 obtain⟨s2,Ki⟩:=Nq (if SS.real (s1.e i).c then s1.duesTo i (((s1.e i).du.woke (s1.e i).c.r0 (s1.e i).c.r1 (s1.e i).c.r2 now).headed len) else s1);have f2:s2.L=s.L/\s2.A=s.A/\s2.kd=s.kd/\(∀j,(s2.e j).c=(s1.e j).c/\(s2.e j).q=(s1.e j).q/\(s2.e j).sh=(s1.e j).sh/\(s2.e j).cp=(s1.e j).cp/\(j≠i->s2.e j=s1.e j/\s2.lv j=s1.lv j))/\s2.okl i:=by
  rw[<- Ki];split
  ·rename_i hr;refine⟨L1,A1,K1,λj=>?_,?_⟩
   ·unfold SS.duesTo SS.setE ax aO;exact ηf
   ·unfold SS.okl;rw[show (s1.duesTo i (((s1.e i).du.woke (s1.e i).c.r0 (s1.e i).c.r1 (s1.e i).c.r2 now).headed len)).L=s.L from L1,hc];rw[C1] at hr;simp[SS.duesTo,SS.setE,ax,aO,hr,hl,Q1]
  ·rename_i hr;refine⟨L1,A1,K1,λj=>⟨rfl,rfl,rfl,rfl,λ_=>⟨rfl,rfl⟩⟩,?_⟩;have:=h.lv i;unfold SS.okl at this ⊢;rw[hc] at this;rw[C1] at hr;rw[L1,hc,V1,this];simp[hr]
 obtain⟨L2,A2,K2,E2,O2⟩:=f2;have TE:∀j,s2.okl j:=λj=>by
  by_cases hj:j=i
  ·rw[hj];exact O2
  ·have:=h.lv j;unfold SS.okl at this ⊢;rw[L2,((E2 j).2.2.2.2 hj).2,((E2 j).2.2.2.2 hj).1,V1,E1 j hj,this]
 have c2:∀j,(s2.e j).c=(s.e j).c:=λj=>by
  rw[(E2 j).1];by_cases hj:j=i
  ·rw[hj,C1,h.ec i c hc]
  ·rw[E1 j hj]
 have q2:∀j,(s2.e j).q=if j=i then [p] else (s.e j).q:=λj=>by
  rw[(E2 j).2.1];by_cases hj:j=i
  ·rw[hj,Q1,ZP rfl]
  ·rw[E1 j hj,ZI hj]
 have n2:∀j,(s2.e j).sh=(s.e j).sh/\(s2.e j).cp=(s.e j).cp:=λj=>by
  rw[(E2 j).2.2.1,(E2 j).2.2.2.1];by_cases hj:j=i
  ·rw[hj];exact⟨S1,P1⟩
  ·rw[E1 j hj];exact⟨rfl,rfl⟩
 unfold SS.wake;simp only[];rw[C1] at Ki ⊢;rw[Ki];have Kc:=h.ec i c hc;by_cases hs:eV c=true
 ·rw[ZP hs];unfold SS.wakeS;rw[A2];have LS:=P.sh κn;have hK0:s.A.K i=[]:=h.leaf hc hl;have hoi:s.A.on i=false:=by
   cases ho:s.A.on i with
   | false=>rfl
   | true=>obtain⟨d,_,_,_,g⟩:=(h.on i).1 ho;exact az hq g
  have oni:∀y ∈ xs.tail,ax s.A.on i true y=false:=λy hy=>by
   obtain⟨d',Pd,RC⟩:=P.inn y hy;unfold ax;split
   ·rename_i e;rw[e,hc] at Pd;cases Pd;rw[hl] at RC;cases RC
   ·cases ho:s.A.on y with
    | false=>rfl
    | true=>obtain⟨d,hd,MF,_⟩:=(h.on y).1 ho;rw[hd] at Pd;cases Pd;rw[MF] at RC;cases RC
  have KO1:pu s.L (ax s.A.on i true) s.A.K i:=λq j hj=>by rw[h.kk q j,show ax s.A.on i true j=s.A.on j from ZI hj]
  have ni:∀q,i ∉ s.A.K q:=λq hm=>by
   obtain⟨d,_,_,_,g⟩:=(h.kk q i).1 hm;rw[hoi,hK0] at g;rcases g with g|g
   ·cases g
   ·exact g rfl
  obtain⟨o1,o2,o3⟩:=uN h.lok.nz LS P.ne P.nd oni KO1 ni (.inl (ZP rfl));obtain⟨s3,MI⟩:=Nq ({s2 with A:=⟨ax s.A.on i true,(bp s.A.K xs).2⟩}:SS);have a3:s3.L=s.L/\s3.e=s2.e/\s3.A=⟨ax s.A.on i true,(bp s.A.K xs).2⟩/\s3.lv=s2.lv/\s3.kd=s.kd:=by rw[<- MI];exact⟨L2,rfl,rfl,rfl,K2⟩
  obtain⟨a31,TW,UO,a34,VP⟩:=a3;rw[MI];obtain⟨z1,z2,z3,z4,z5,_⟩:=iU now (bp s.A.K xs).1 s3;obtain⟨u,hu⟩:=Nq ((bp s.A.K xs).1.foldl (SS.wake1 now) s3);rw[hu] at z1 z2 z3 z4 z5 ⊢;refine h.rebuild P (z1.trans a31) (λj d hd=>by rw[(z5 j).1,TW,c2];exact h.ec j d hd) (λj=>?_) (by rw[z2,UO];exact o1) (λj=>?_) (λj hj0 hj=>?_) (λq j hj=>by rw[z4,VP]) (λj hj q=>.inr (by rw[z4,VP])) (λj hj hi q=>?_)
  ·rw[z2,UO,(z5 j).2.1,TW,q2];show ax s.A.on i true j=true↔_;by_cases hj:j=i
   ·subst hj;rw[show ax s.A.on j true j=true from ZP rfl,ZP rfl];exact⟨λ_=>⟨c,hc,hl,hs,by simp⟩,λ_=>rfl⟩
   ·rw[show ax s.A.on i true j=s.A.on j from ZI hj,ZI hj];exact h.on j
  ·have:=TE j;unfold SS.okl at this ⊢;rw[z1,a31,z3,a34,(z5 j).2.1,(z5 j).2.2.1,TW,this,L2]
  ·have NV:j≠i:=λe=>hj (e ▸ P.hd);have hjy:j ∉ (bp s.A.K xs).1:=λg=>hj (iy j g);refine⟨by rw[z2,UO];exact ZI NV,by rw[z2,UO];exact uM hj0 (λe=>hj (List.mem_of_mem_tail e)),by rw[(z5 j).2.2.2.2 hjy,TW,(n2 j).2],λq _=>by rw[(z5 j).2.2.2.2 hjy,TW,(n2 j).1],by rw[z4,VP]⟩
  ·have hn:s.A.is j=false:=by
    cases ho:s.A.is j with
    | false=>rfl
    | true=>
     rw[z2,UO] at hi;have hii:¬(ax s.A.on i true j=true\/(bp s.A.K xs).2 j≠[]):=λg=>by have:=(eJ (A:=⟨ax s.A.on i true,(bp s.A.K xs).2⟩) (j:=j)).2 g;rw[hi] at this;cases this
     rcases eJ.1 ho with g|g
     ·exact az (.inl (by unfold ax;split;rfl;exact g)) hii
     ·obtain⟨k,hk⟩:=List.exists_mem_of_ne_nil _ g;exact az (.inr (λe=>by have:=o3 j k hk;rw[e] at this;cases this)) hii
   rw[z4,VP,h.kd j q,ZI];intro hm;obtain⟨d,hd,_,_,g⟩:=(h.kk q j).1 hm;rw[eJ.2 g] at hn;cases hn
 ·rw[ZI hs];refine⟨by rw[L2];exact h.lok,λj d hd=>by rw[c2];exact h.ec j d (L2 ▸ hd),λj=>?_,by rw[L2,A2];exact h.kk,λj q=>?_,TE⟩
  ·rw[A2,L2,q2,h.on j];by_cases hj:j=i
   ·subst hj;rw[ZP rfl];constructor
    ·rintro⟨d,hd,g1,g2,g3⟩;exact az hq g3
    ·rintro⟨d,hd,g1,g2,g3⟩;rw[hc] at hd;cases hd;exact az g2 hs
   ·rw[ZI hj]
  ·rw[K2,A2,h.kd j q,(n2 j).1,SS.fit_same (t:=s2) (s:=s) (by rw[c2]) (by rw[A2]) (by rw[(n2 j).2]) (by rw[K2])]
theorem SS.Inv.clk (h:s.Inv)(now:Int):({s with clk:=now}:SS).Inv:=h.same rfl rfl rfl rfl (λj=>⟨rfl,Iff.rfl,rfl,rfl,rfl,rfl⟩)
theorem SS.Inv.push {p:PK} {a:Int} (h:s.Inv)(hq:(s.e i).q≠[]):({s.setE i {s.e i with q:=(s.e i).q++[p]} with acc:=a}:SS).Inv:=by
 refine h.same rfl rfl rfl rfl (λj=>?_);unfold SS.setE ax;simp only[];by_cases hj:j=i
 ·subst hj;simp[hq]
 ·simp[hj]
theorem SS.Inv.put {now n:Int} {p:PK} {s':SS} (h:s.Inv)(P:∀c,fc s.L i=some c->kL s.L i xs)(e:s.put now i p xs=(n,s')):s'.Inv:=by
 unfold SS.put at e;split at e
 ·cases e;exact h
 ·cases hc:fc s.L i with
  | none=>simp only[hc] at e;cases e;exact h.clk now
  | some c=>
   simp only[hc] at e;have h0:=h.clk now;by_cases g1:c.lf=false
   ·rw[ZP g1] at e;cases e;exact h0
   rw[ZI g1] at e;split at e
   ·cases e;exact h0
   split at e
   ·cases e;exact h0
   split at e
   ·cases e;exact h0
   split at e
   ·rename_i hq;cases e
    refine h0.wake (p:=p) hc (by simpa using g1) hq (P c hc) ⟨rfl,rfl,rfl,rfl,λj hj=>ZI hj,?_,?_,?_,?_⟩<;>simp[SS.setE,ax,hq,h.ec i c hc]
   ·rename_i hq;cases e
    exact h0.push hq
theorem SS.Inv.chosen {x:Bool} {now:Int} (h:s.Inv)(Kh:SS.Choose s now (some (i,x))):∃c xs p r,fc s.L i=some c/\c.lf=true/\(s.e i).q=p::r/\kL s.L i xs/\(eV c=true->cf s.L i xs/\xs≠[]/\s.A.is i=true/\∀y ∈ 0::xs.tail,s.A.K y≠[]):=by
 have main:∃c,fc s.L i=some c/\c.lf=true/\(s.e i).q≠[]:=by
  rcases Kh with ⟨k,hk,e⟩|⟨_,⟨k,hk,e⟩|⟨_,e⟩⟩
  ·cases e
   obtain⟨y,hy,_⟩:=hk;have:=h.lv i;unfold SS.okl at this;cases hc:fc s.L i with
   | none=>rw[hc] at this;rw[this] at hy;cases hy
   | some c=>
    rw[hc] at this;by_cases g:c.lf=true/\SS.real c=true/\(s.e i).q≠[]
    ·exact⟨c,rfl,g.1,g.2.2⟩
    ·simp only[ZI g] at this;rw[this] at hy;cases hy
  ·cases e
   have:∀j r,SS.Chain s now j r->∀i,r=some i->∃c,fc s.L i=some c/\c.lf=true/\(s.e i).q≠[]:=by
    intro j r KR
    induction KR with
    | none _=>intro i e;cases e
    | @leaf j k hp hl=>
     intro i e;cases e
     obtain⟨y,hy,_⟩:=hp;rw[h.kd k j] at hy;by_cases hm:k ∈ s.A.K j
     ·obtain⟨d,hd,_,_,g⟩:=(h.kk j k).1 hm;rw[h.ec k d hd] at hl;rw[h.leaf hd hl] at g;obtain⟨d',Pd,_,_,gq⟩:=(h.on k).1 (g.resolve_right (λe=>e rfl));exact⟨d,hd,hl,gq⟩
     ·rw[ZI hm] at hy;cases hy
    | inner _ _ _ ih=>exact ih
   exact this 0 _ hk i rfl
  ·cases e
 obtain⟨c,hc,hl,hq⟩:=main;obtain⟨xs,P⟩:=h.lok.path hc;obtain⟨p,r,hpr⟩:∃p r,(s.e i).q=p::r:=by
  cases e:(s.e i).q with
  | nil=>exact az e hq
  | cons p r=>exact⟨p,r,rfl⟩
 refine⟨c,xs,p,r,hc,hl,hpr,P,λhs=>?_⟩;have LS:=P.sh κn;have MT:s.A.on i=true:=(h.on i).2 ⟨c,hc,hl,hs,hq⟩;obtain⟨g1,g2⟩:=jB (x:=0) LS (λq j _=>h.kk q j) (ZD.1 P.nd).1 (λ_=>.inl MT);refine⟨LS,P.ne,eJ.2 (.inl MT),λy hy=>?_⟩;rcases ZC.1 hy with e|e
 ·rw[e];exact g2 P.ne
 ·exact g1 y e
end
theorem uz {m:TM} {x:Int} (hx:x<Mc)(h:∀j q,m j=some q->x<q.2):x<fitT m:=by unfold fitT;exact ηi
theorem qn {m:TM} {x:Int} (hx:x<Mc)(h:∀j q,m j=some q->x<q.1):x<di m:=by unfold di;exact ηi
theorem xY {m:TM} {j:Int} {q:Int × Int} (h:m j=some q)(ex:∃v,eY m Mc v):di m<=q.1:=by unfold di;rw[dif_pos ex];exact(Classical.choose_spec ex).2.2 j q h
section
variable {s:SS} {now:Int}
theorem SS.Inv.idle (h:s.Inv)(hn:now<=4611686018427387904)(Kh:SS.Choose s now none):now<min (di s.lv) (fitT (s.kd 0)):=by
 have hm:min now Mb=now:=ρa;have chain:∀p r,SS.Chain s now p r->r=none->now<fitT (s.kd p):=by
  intro p r KR
  induction KR with
  | @none p hp=>intro _;exact uz ρa (λj q hq=>by have:=hp.2 j q hq;omega)
  | leaf _ _=>intro e;cases e
  | @inner p j r hp hl _ ih=>
   intro e;exfalso;have g:=ih e;obtain⟨y,hy,hy2,_⟩:=hp;rw[h.kd j p] at hy;by_cases NW:j ∈ s.A.K p
   ·rw[ZP NW] at hy;cases hy
    obtain⟨d,hd,_,_,ga⟩:=(h.kk p j).1 NW;have e2:s.fit j=max (s.e j).cp.t (fitT (s.kd j)):=by
     unfold SS.fit;rw[ZI];rintro(w|w)
     ·rw[hl] at w;cases w
     ·rw[eJ.2 ga] at w;cases w
    simp only[e2] at hy2;omega
   ·rw[ZI NW] at hy;cases hy
 rcases Kh with ⟨_,_,e⟩|⟨he,⟨_,_,e⟩|⟨KR,_⟩⟩
 ·cases e
 ·cases e
 ·have h1:=chain 0 _ KR rfl;have h2:now<di s.lv:=qn ρa (λj q hq=>by have:=he.2 j q hq;omega);omega
theorem SS.Inv.lvs (h:s.Inv) {j:Int} {c:CD} (hc:fc s.L j=some c)(hl:c.lf=true)(hr:SS.real c=true)(hq:(s.e j).q≠[]):s.lv j=some ((s.e j).du.e,(s.e j).du.t):=by have:=h.lv j;unfold SS.okl at this;rw[hc] at this;rw[this];exact ZP ⟨hl,hr,hq⟩
theorem SS.Inv.lvn (h:s.Inv) {j:Int} {q:Int × Int} (hj:s.lv j=some q):∃c,fc s.L j=some c/\c.lf=true/\SS.real c=true/\(s.e j).q≠[]/\q=((s.e j).du.e,(s.e j).du.t):=by
 have:=h.lv j;unfold SS.okl at this;cases hc:fc s.L j with
 | none=>rw[hc] at this;rw[this] at hj;cases hj
 | some c=>
  rw[hc] at this;by_cases g:c.lf=true/\SS.real c=true/\(s.e j).q≠[]
  ·simp only[ZP g] at this;rw[this] at hj;cases hj;exact⟨c,rfl,g.1,g.2.1,g.2.2,rfl⟩
  ·simp only[ZI g] at this;rw[this] at hj;cases hj
theorem SS.Inv.byShare (h:s.Inv) {i:Int} (hn:now<=4611686018427387904)(Kh:SS.Choose s now (some (i,false))):∀j c,fc s.L j=some c->c.lf=true->SS.real c=true->(s.e j).q≠[]->now<(s.e j).du.e:=by
 intro j c hc hl hr hq;have hv:=h.lvs hc hl hr hq;rcases Kh with ⟨_,_,e⟩|⟨he,_⟩
 ·cases e
 ·have:=he.2 j _ hv;simp only at this;omega
theorem SS.Inv.byReal (h:s.Inv) {i:Int} (hn:now<=4611686018427387904)(Kh:SS.Choose s now (some (i,true))):(s.e i).du.e<=now/\(∃c,fc s.L i=some c/\c.lf=true/\SS.real c=true/\(s.e i).q≠[])/\∀j c,fc s.L j=some c->c.lf=true->SS.real c=true->(s.e j).q≠[]->(s.e j).du.e<=now->(s.e i).du.t<=(s.e j).du.t:=by
 have hm:min now Mb=now:=ρa;rcases Kh with ⟨k,hk,e⟩|⟨_,⟨_,_,e⟩|⟨_,e⟩⟩
 ·cases e
  obtain⟨y,hy,h1,h2⟩:=hk;obtain⟨c,hc,hl,hr,hq,rfl⟩:=h.lvn hy;rw[hm] at h1;refine⟨h1,⟨c,hc,hl,hr,hq⟩,λj d hd gl gr gq ge=>?_⟩;have:=h2 j _ (h.lvs hd gl gr gq) (by rw[hm];exact ge);simp only at this;omega
 ·cases e
 ·cases e
theorem SS.Inv.early (h:s.Inv)(ex:∃v,eY s.lv Mc v)(hd:now<min (di s.lv) (fitT (s.kd 0))):∀j c,fc s.L j=some c->c.lf=true->SS.real c=true->(s.e j).q≠[]->now<(s.e j).du.e:=by intro j c hc hl hr hq;have:=xY (h.lvs hc hl hr hq) ex;simp only at this;omega
end
theorem rK {n:Int}:∀{xs:List Int} {s:SS} {j:Int},xs.Nodup->j ∈ xs->(xs.foldl (SS.take1 n) s).e j={s.e j with tot:=(s.e j).tot+n,sh:=(s.e j).sh.took ((s.e j).tot+n),cp:=(s.e j).cp.fit ((s.e j).tot+n)}
 | [],_,_,_,h=>by simp at h
 | x::r,s,j,hn,h=>by
  rw[ZD] at hn;show (r.foldl (SS.take1 n) (s.take1 n x)).e j=_;by_cases hj:j=x
  ·subst hj;rw[iJ hn.1];exact ZP rfl
  ·have hr:j ∈ r:=(ZC.1 h).resolve_left hj;rw[rK hn.2 hr,rJ hj]
theorem mC (n:Int):∀(xs:List Int)(s:SS),(xs.foldl (SS.take1 n) s).T=s.T/\(xs.foldl (SS.take1 n) s).Lm=s.Lm/\(xs.foldl (SS.take1 n) s).clk=s.clk/\(xs.foldl (SS.take1 n) s).acc=s.acc
 | [],s=>⟨rfl,rfl,rfl,rfl⟩
 | x::r,s=>mC n r (s.take1 n x)
section
variable {s t:SS} {i:Int} {xs:List Int} {c:CD}
structure n6 (s t:SS) (now i:Int) (b:Bool) (xs:List Int) (p:PK) (r:List PK):Prop where
 L:t.L=s.L
 T:t.T=s.T
 Lm:t.Lm=s.Lm
 clk:t.clk=now
 acc:t.acc=s.acc
 cc:∀j,(t.e j).c=(s.e j).c
 q:∀j,(t.e j).q=if j=i then r else (s.e j).q
 tot:∀j,(t.e j).tot=if j ∈ xs then (s.e j).tot+p.len else (s.e j).tot
 du:∀j,(t.e j).du=if j=i/\SS.real (s.e i).c=true then (if b then (s.e i).du.took p.len (av r) else (s.e i).du.headed (av r)) else (s.e j).du
 cp:∀j,(t.e j).cp=if j ∈ xs then (s.e j).cp.fit ((s.e j).tot+p.len) else (s.e j).cp
 sh:∀j,(t.e j).sh=CH.zero\/(t.e j).sh=if j ∈ xs then (s.e j).sh.took ((s.e j).tot+p.len) else (s.e j).sh
theorem wJ (s:SS)(y j:Int):((s.sleep1 y).e j).sh=CH.zero\/((s.sleep1 y).e j).sh=(s.e j).sh:=by
 unfold SS.sleep1;dsimp only;split
 ·dsimp only;split
  ·exact .inl rfl
  ·exact .inr rfl
 ·exact .inr rfl
theorem nN:∀(ys:List Int)(s:SS)(j:Int),((ys.foldl SS.sleep1 s).e j).sh=CH.zero\/((ys.foldl SS.sleep1 s).e j).sh=(s.e j).sh
 | [],s,j=>.inr rfl
 | y::r,s,j=>by
  rcases nN r (s.sleep1 y) j with h|h
  ·exact .inl h
  ·rcases wJ s y j with g|g
   ·exact .inl (h.trans g)
   ·exact .inr (h.trans g)
theorem tY (now:Int)(b:Bool) {p:PK} {r:List PK} (hq:(s.e i).q=p::r)(hi:i ∈ xs)(hn:xs.Nodup):n6 s (s.take now i b xs) now i b xs p r:=by
 rw[pi hq];obtain⟨s0,Lx⟩:=Nq (({s with clk:=now}:SS).setE i {s.e i with q:=r});have f0:s0.L=s.L/\s0.T=s.T/\s0.Lm=s.Lm/\s0.clk=now/\s0.acc=s.acc/\∀j,(s0.e j).c=(s.e j).c/\(s0.e j).q=(if j=i then r else (s.e j).q)/\(s0.e j).du=(s.e j).du/\(s0.e j).tot=(s.e j).tot/\(s0.e j).sh=(s.e j).sh/\(s0.e j).cp=(s.e j).cp:=by rw[<- Lx];refine⟨rfl,rfl,rfl,rfl,rfl,λj=>?_⟩;unfold SS.setE ax;exact ηf
 rw[Lx];obtain⟨a1,a2,a3,a4,a5,a6⟩:=f0;obtain⟨s1,KI⟩:=Nq (xs.foldl (SS.take1 p.len) s0);have f1:=gX p.len xs s0;have m1:=mC p.len xs s0;have g1:∀j,(s1.e j).tot=(if j ∈ xs then (s.e j).tot+p.len else (s.e j).tot)/\(s1.e j).cp=(if j ∈ xs then (s.e j).cp.fit ((s.e j).tot+p.len) else (s.e j).cp)/\(s1.e j).sh=(if j ∈ xs then (s.e j).sh.took ((s.e j).tot+p.len) else (s.e j).sh):=λj=>by
  obtain⟨_,_,_,b4,b5,b6⟩:=a6 j;rw[<- KI];by_cases hj:j ∈ xs
  ·rw[rK hn hj];simp only[ZP hj,b4,b5,b6];exact⟨trivial,trivial,trivial⟩
  ·rw[iJ hj];simp only[ZI hj,b4,b5,b6];exact⟨trivial,trivial,trivial⟩
 rw[KI] at f1 m1 ⊢;obtain⟨h1,_,_,_,h5⟩:=f1;obtain⟨d1,_,_,d4,d5,d6,d7,d8⟩:=lP (s:=s1) (i:=i) p.len b;have dd:((s1.due i p.len b).e i).du=if SS.real (s1.e i).c=true then (if b then (s1.e i).du.took p.len (av (s1.e i).q) else (s1.e i).du.headed (av (s1.e i).q)) else (s1.e i).du:=by
  unfold SS.due;split
  ·dsimp only;split<;>simp[SS.duesTo,SS.setE,ax]
  ·rfl
 obtain⟨s2,Ki⟩:=Nq (s1.due i p.len b);rw[Ki] at d1 d4 d5 d6 d7 d8 dd ⊢;have q2:∀j,(s2.e j).q=if j=i then r else (s.e j).q:=λj=>by rw[(d4 j).2.1,(h5 j).2.1,(a6 j).2.1]
 have hdu:∀j,(s2.e j).du=if j=i/\SS.real (s.e i).c=true then (if b then (s.e i).du.took p.len (av r) else (s.e i).du.headed (av r)) else (s.e j).du:=λj=>by
  by_cases hj:j=i
  ·subst hj;rw[dd,(h5 j).1,(a6 j).1,(h5 j).2.1,(a6 j).2.1,ZP rfl,(h5 j).2.2,(a6 j).2.2.1];simp only[true_and]
  ·rw[ZI (λg=>hj g.1),((d4 j).2.2.2.2.2 hj).1,(h5 j).2.2,(a6 j).2.2.1]
 have NN:n6 s s2 now i b xs p r:=⟨d1.trans (h1.trans a1),d7.trans (m1.1.trans a2),d8.trans (m1.2.1.trans a3),d5.trans (m1.2.2.1.trans a4),d6.trans (m1.2.2.2.trans a5),λj=>by rw[(d4 j).1,(h5 j).1,(a6 j).1],q2,λj=>by rw[(d4 j).2.2.2.2.1,(g1 j).1],hdu,λj=>by rw[(d4 j).2.2.2.1,(g1 j).2.1],λj=>.inr (by rw[(d4 j).2.2.1,(g1 j).2.2])⟩;obtain⟨s3,MI⟩:=Nq (if (s2.e i).q=[] then s2.sleep i xs else s2);have Mi:n6 s s3 now i b xs p r:=by
  rw[<- MI];split
  ·unfold SS.sleep;split
   ·obtain⟨z1,_,_,z4,_,_,z7,z8,z9,z10⟩:=iD (aT s2.A.K xs).1 {s2 with A:=⟨ax s2.A.on i false,(aT s2.A.K xs).2⟩};refine⟨z1.trans NN.L,z9.trans NN.T,z10.trans NN.Lm,z7.trans NN.clk,z8.trans NN.acc,λj=>(z4 j).1.trans (NN.cc j),λj=>(z4 j).2.1.trans (NN.q j),λj=>(z4 j).2.2.2.2.trans (NN.tot j),λj=>(z4 j).2.2.2.1.trans (NN.du j),λj=>(z4 j).2.2.1.trans (NN.cp j),λj=>?_⟩;rcases nN (aT s2.A.K xs).1 {s2 with A:=⟨ax s2.A.on i false,(aT s2.A.K xs).2⟩} j with g|g
    ·exact .inl g
    ·rcases NN.sh j with w|w
     ·exact .inl (g.trans w)
     ·exact .inr (g.trans w)
   ·exact NN
  ·exact NN
 rw[MI];obtain⟨y1,y2,_,_,y5,y6,y7,y8⟩:=fI s3 xs;exact⟨y1.trans Mi.L,y7.trans Mi.T,y8.trans Mi.Lm,y5.trans Mi.clk,y6.trans Mi.acc,λj=>by rw[y2];exact Mi.cc j,λj=>by rw[y2];exact Mi.q j,λj=>by rw[y2];exact Mi.tot j,λj=>by rw[y2];exact Mi.du j,λj=>by rw[y2];exact Mi.cp j,λj=>by rw[y2];exact Mi.sh j⟩
structure jj (s t:SS) (now i:Int) (xs:List Int) (p:PK) (c:CD):Prop where
 L:t.L=s.L
 T:t.T=s.T
 Lm:t.Lm=s.Lm
 clk:t.clk=now
 acc:t.acc=s.acc+p.len
 cc:∀j,(t.e j).c=(s.e j).c
 q:∀j,(t.e j).q=if j=i then (s.e i).q++[p] else (s.e j).q
 tot:∀j,(t.e j).tot=(s.e j).tot
 du:∀j,(t.e j).du=if j=i/\(s.e i).q=[]/\SS.real c=true then ((s.e i).du.woke c.r0 c.r1 c.r2 now).headed p.len else (s.e j).du
 sh:∀j,(t.e j).sh=(s.e j).sh\/j ∈ xs/\(t.e j).sh=(s.e j).sh.wake (s.e j).c.l0 (s.e j).c.l1 (s.e j).c.l2 (kf (s.kd (s.e j).c.par)) (s.e j).tot
 cls:fc s.L i=some c/\c.lf=true
 len:1<=p.len/\p.len<=s.Lm
 told:s.clk<=now/\now<=4611686018427387904
 more:s.acc+p.len<=1099511627776
theorem rZ (now:Int):∀(ys:List Int)(s:SS)(j:Int),((ys.foldl (SS.wake1 now) s).e j).sh=(s.e j).sh\/j ∈ ys/\(ys.Nodup->((ys.foldl (SS.wake1 now) s).e j).sh=(s.e j).sh.wake (s.e j).c.l0 (s.e j).c.l1 (s.e j).c.l2 (kf (s.kd (s.e j).c.par)) (s.e j).tot)
 | [],s,j=>.inl rfl
 | y::r,s,j=>by
  have g:(s.wake1 now y).kd=s.kd/\((s.wake1 now y).e j).c=(s.e j).c/\((s.wake1 now y).e j).tot=(s.e j).tot/\(j≠y->(s.wake1 now y).e j=s.e j)/\(j=y->((s.wake1 now y).e j).sh=(s.e j).sh.wake (s.e j).c.l0 (s.e j).c.l1 (s.e j).c.l2 (kf (s.kd (s.e j).c.par)) (s.e j).tot):=by
   unfold SS.wake1 SS.setE ax;simp only[];by_cases hj:j=y
   ·subst hj;simp
   ·simp[hj]
  obtain⟨g1,g2,g3,g4,g5⟩:=g;simp only[List.foldl_cons];by_cases hj:j=y
  ·right;refine⟨by simp[hj],λhn=>?_⟩;rw[ZD] at hn;have:=(iU now r (s.wake1 now y)).2.2.2.2.1 j;rw[this.2.2.2.2 (by rw[hj];exact hn.1),g5 hj]
  ·rcases rZ now r (s.wake1 now y) j with h|⟨h1,h2⟩
   ·exact .inl (by rw[h,g4 hj])
   ·right;refine⟨sA _ h1,λhn=>?_⟩;rw[h2 (ZD.1 hn).2,g1,g4 hj]
theorem lW:∀{xs:List Int} {K:Int->List Int},xs.Nodup->(bp K xs).1.Nodup
 | [],_,h=>h
 | [i],_,h=>h
 | i::p::r,K,h=>by
  rw[ZD] at h;unfold bp;split
  ·exact ZD.2 ⟨λg=>h.1 (iy i g),lW h.2⟩
  ·simp
theorem bW {now n:Int} {p:PK} {s':SS} (ec:∀i c,fc s.L i=some c->(s.e i).c=c)(hn:xs.Nodup)(e:s.put now i p xs=(n,s')):(n≠0/\(s'=s\/s'={s with clk:=now}/\s.clk<=now/\now<=4611686018427387904))\/(n=0/\∃c,jj s s' now i xs p c):=by
 unfold SS.put at e;split at e
 ·cases e;exact .inl ⟨by simp,.inl rfl⟩
 ·rename_i Un;have tl:s.clk<=now/\now<=4611686018427387904:=by simpa [SS.told] using Un
  have no:∀k:Int,k≠0->(k,({s with clk:=now}:SS))=(n,s')->(n≠0/\(s'=s\/s'={s with clk:=now}/\s.clk<=now/\now<=4611686018427387904))\/(n=0/\∃c,jj s s' now i xs p c):=λk hk e=>by cases e;exact .inl ⟨hk,.inr ⟨rfl,tl⟩⟩
  cases hc:fc s.L i with
  | none=>simp only[hc] at e;exact no 23 ρa e
  | some c=>
   simp only[hc] at e;by_cases g1:c.lf=false
   ·rw[ZP g1] at e;exact no 29 ρa e
   rw[ZI g1] at e;split at e
   ·exact no 26 ρa e
   rename_i g2;split at e
   ·exact no 28 ρa e
   rename_i g3;split at e
   ·exact no 30 ρa e
   right;have Kc:=ec i c hc;have ln:1<=p.len/\p.len<=s.Lm:=by simp only[not_or,Int.not_lt] at g2;exact g2
   split at e
   ·rename_i hq;have hq:(s.e i).q=[]:=hq;obtain⟨rfl,rfl⟩:=Prod.mk.inj e;refine⟨rfl,c,?_⟩;obtain⟨s1,KI⟩:=Nq ({({s with clk:=now}:SS).setE i {s.e i with q:=(s.e i).q++[p]} with acc:=s.acc+p.len}:SS);have f1:s1.L=s.L/\s1.T=s.T/\s1.Lm=s.Lm/\s1.clk=now/\s1.acc=s.acc+p.len/\s1.kd=s.kd/\∀j,(s1.e j).c=(s.e j).c/\(s1.e j).q=(if j=i then (s.e i).q++[p] else (s.e j).q)/\(s1.e j).du=(s.e j).du/\(s1.e j).tot=(s.e j).tot/\(s1.e j).sh=(s.e j).sh:=by
     rw[<- KI];refine⟨rfl,rfl,rfl,rfl,rfl,rfl,λj=>?_⟩;unfold SS.setE ax;exact ηf
    suffices key:jj s (s1.wake now i p.len xs) now i xs p c by rw[<- KI] at key;exact key
    clear KI;obtain⟨a1,a2,a3,a4,a5,a6,a7⟩:=f1;unfold SS.wake;simp only[];rw[show (s1.e i).c=c from(a7 i).1.trans Kc];obtain⟨s2,Ki⟩:=Nq (if SS.real c then s1.duesTo i (((s1.e i).du.woke c.r0 c.r1 c.r2 now).headed p.len) else s1);have NN:s2.L=s1.L/\s2.T=s1.T/\s2.Lm=s1.Lm/\s2.clk=s1.clk/\s2.acc=s1.acc/\s2.kd=s1.kd/\∀j,(s2.e j).c=(s1.e j).c/\(s2.e j).q=(s1.e j).q/\(s2.e j).tot=(s1.e j).tot/\(s2.e j).sh=(s1.e j).sh/\(s2.e j).du=if j=i/\SS.real c=true then ((s1.e i).du.woke c.r0 c.r1 c.r2 now).headed p.len else (s1.e j).du:=by
     rw[<- Ki];split
     ·rename_i hr;refine⟨rfl,rfl,rfl,rfl,rfl,rfl,λj=>?_⟩;unfold SS.duesTo SS.setE ax;simp only[];by_cases hj:j=i
      ·subst hj;simp[hr]
      ·simp[hj]
     ·rename_i hr;refine⟨rfl,rfl,rfl,rfl,rfl,rfl,λj=>⟨rfl,rfl,rfl,rfl,?_⟩⟩;rw[ZI (λg=>hr g.2)]
    rw[Ki];obtain⟨b1,b2,b3,b4,b5,b6,b7⟩:=NN;have base:jj s s2 now i xs p c:=⟨b1.trans a1,b2.trans a2,b3.trans a3,b4.trans a4,b5.trans a5,λj=>(b7 j).1.trans (a7 j).1,λj=>(b7 j).2.1.trans (a7 j).2.1,λj=>(b7 j).2.2.1.trans (a7 j).2.2.2.1,λj=>by rw[(b7 j).2.2.2.2,(a7 i).2.2.1,(a7 j).2.2.1];simp[hq],λj=>.inl ((b7 j).2.2.2.1.trans (a7 j).2.2.2.2),⟨hc,by simpa using g1⟩,ln,tl,by have g3:¬1099511627776<s.acc+p.len:=g3;omega⟩;split
    ·unfold SS.wakeS;obtain⟨z1,_,_,_,z5,z6,z7,z8,z9⟩:=iU now (bp s2.A.K xs).1 {s2 with A:=⟨ax s2.A.on i true,(bp s2.A.K xs).2⟩};obtain⟨y1,y2,_,_,y5,y6,y7,y8⟩:=fI ((bp s2.A.K xs).1.foldl (SS.wake1 now) {s2 with A:=⟨ax s2.A.on i true,(bp s2.A.K xs).2⟩}) xs;refine⟨y1.trans (z1.trans base.L),y7.trans (z8.trans base.T),y8.trans (z9.trans base.Lm),y5.trans (z6.trans base.clk),y6.trans (z7.trans base.acc),λj=>by rw[y2];exact(z5 j).1.trans (base.cc j),λj=>by rw[y2];exact(z5 j).2.1.trans (base.q j),λj=>by rw[y2];exact(z5 j).2.2.2.1.trans (base.tot j),λj=>by rw[y2];exact(z5 j).2.2.1.trans (base.du j),λj=>?_,base.cls,base.len,base.told,base.more⟩;rw[y2];rcases rZ now (bp s2.A.K xs).1 {s2 with A:=⟨ax s2.A.on i true,(bp s2.A.K xs).2⟩} j with g|⟨g1,g2⟩
     ·exact .inl (g.trans ((b7 j).2.2.2.1.trans (a7 j).2.2.2.2))
     ·right;refine⟨iy j g1,(g2 (lW hn)).trans ?_⟩;show (s2.e j).sh.wake (s2.e j).c.l0 (s2.e j).c.l1 (s2.e j).c.l2 (kf (s2.kd (s2.e j).c.par)) (s2.e j).tot=_;rw[(b7 j).1,(b7 j).2.2.1,(b7 j).2.2.2.1,b6,a6,(a7 j).1,(a7 j).2.2.2.1,(a7 j).2.2.2.2]
    ·exact base
   ·rename_i hq;have hq:¬(s.e i).q=[]:=hq;obtain⟨rfl,rfl⟩:=Prod.mk.inj e;refine⟨rfl,c,rfl,rfl,rfl,rfl,rfl,λj=>?_,λj=>?_,λj=>?_,λj=>?_,λj=>.inl ?_,⟨hc,by simpa using g1⟩,ln,tl,by have g3:¬1099511627776<s.acc+p.len:=g3;omega⟩<;>
    ·unfold SS.setE ax;simp only[];by_cases hj:j=i
     ·subst hj;simp[hq]
     ·simp[hj]
end
def CH.low (c:CH):Prop:=c.r.ok/\c.r.f.X<=Mc/\c.r.t.X<=Mc/\0<=c.t/\c.t<=Mc
theorem CH.low_zero:CH.zero.low:=by unfold CH.low CH.zero RN.ok LN.ok ai;simp
theorem jJ {r:RN} (h:r.ok)(h1:r.f.X<=Mc)(h2:r.t.X<=Mc)(p:Int):0<=r.time p/\r.time p<=Mc:=by have h3:=RN.reach_rng h (p*65536);have h4:=h.1.1;have h5:=h.2.1;unfold RN.time;split<;>omega
theorem CE {a b:LN} {N:Int} (ha:a.X<=N)(hb:b.X<=N):(LN.low a b).X<=N:=by unfold LN.low;split<;>assumption
theorem BT {m d n x y N:Int} (h4:kd m d n≠4)(hx:x<=N)(h0:0<=N):(RN.start m d n x y).f.X<=N/\(RN.start m d n x y).t.X<=N:=by
 unfold RN.start;rw[ZI h4];unfold RN.ready;split
 ·exact⟨h0,hx⟩
 ·split
  ·exact⟨hx,hx⟩
  ·exact⟨h0,hx⟩
theorem CH.low_wake {c:CH} {m d n low p:Int} (h:c.low)(hc:cV m d n)(h4:kd m d n≠4)(hl:0<=low/\low<=Mc)(hp:0<=p/\p<=2199023255552):(c.wake m d n low p).low:=by
 obtain⟨h1,h2,h3,_⟩:=h;obtain⟨_,hm,hd,hn⟩:=hc;have s1:(RN.start m d n low (p*65536)).ok:=RN.start_ok ρa hd.1 ρa hl ρz;obtain⟨s2,s3⟩:=BT (m:=m) (d:=d) (n:=n) (x:=low) (y:=p*65536) h4 hl.2 ρa;have key:∀r:RN,r.ok->r.f.X<=Mc->r.t.X<=Mc->CH.low ⟨true,r,r.time p⟩:=λr g1 g2 g3=>⟨g1,g2,g3,(jJ g1 g2 g3 p).1,(jJ g1 g2 g3 p).2⟩;unfold CH.wake;split
 ·refine key _ (RN.meet_ok h1 s1) ?_ (CE h3 s3);unfold RN.meet;simp only[];split
  ·exact CE h2 s2
  ·exact(by decide:(0:Int)<=Mc)
 ·exact key _ s1 s2 s3
theorem CH.low_took {c:CH} {p:Int} (h:c.low):(c.took p).low:=by
 unfold CH.took;split
 ·exact⟨h.1,h.2.1,h.2.2.1,(jJ h.1 h.2.1 h.2.2.1 p).1,(jJ h.1 h.2.1 h.2.2.1 p).2⟩
 ·exact h
def SS.ids (s:SS):List Int:=s.L.map CD.id
def SS.bys (s:SS):Int:=cI (λi=>aA (s.e i).q) s.ids
def SS.pks (s:SS):Int:=cI (λi=>((s.e i).q.length:Int)) s.ids
theorem fa (a b:List PK):aA (a++b)=aA a+aA b:=by
 induction a with
 | nil=>simp[aA]
 | cons x r ih=>simp only[List.cons_append,aA,ih];omega
theorem sJ {q:List PK} (h:∀p ∈ q,0<=p.len):0<=aA q:=by
 induction q with
 | nil=>simp[aA]
 | cons x r ih=>have h1:=h x ρp;have h2:=ih (λp hp=>h p (by simp[hp]));simp only[aA];omega
theorem iI {f:Int->Int}:∀{R:List Int},(∀i ∈ R,0<=f i)->0<=cI f R
 | [],_=>ZJ _
 | i::r,h=>by have h1:=h i ρp;have h2:=iI (R:=r) (λj hj=>h j (by simp[hj]));simp only[cI];omega
structure SS.Num (s:SS):Prop where
 nd:s.ids.Nodup
 cin:∀c ∈ s.L,cV c.r0 c.r1 c.r2/\cV c.l0 c.l1 c.l2/\Go.Proofs.YtfdlemkplejdnaaGreat.kd c.l0 c.l1 c.l2≠4
 lm:1<=s.Lm/\s.Lm<=16384
 clk:0<=s.clk/\s.clk<=4611686018427387904
 acc:0<=s.acc/\s.acc<=1099511627776
 tot:∀i c,fc s.L i=some c->0<=(s.e i).tot/\(s.e i).tot+s.bys<=s.acc
 pk:∀i c,fc s.L i=some c->∀p ∈ (s.e i).q,1<=p.len/\p.len<=s.Lm
 sh:∀i c,fc s.L i=some c->(s.e i).sh.low
section
variable {s t:SS} {i:Int} {xs:List Int} {c:CD} {p:PK} {r:List PK} {now:Int} {b:Bool}
theorem gJ {L:List CD} (h:mO L) {i:Int}:i ∈ L.map CD.id↔∃c,fc L i=some c:=by
 constructor
 ·intro hi;obtain⟨c,hc,rfl⟩:=List.mem_map.1 hi;exact⟨c,h.ids c hc⟩
 ·rintro⟨c,hc⟩;exact List.mem_map.2 ⟨c,(fD hc).1,(fD hc).2⟩
theorem SS.Num.vt (N:s.Num)(h:s.Inv):∀p j q,s.kd p j=some q->0<=q.1/\q.1<=Mc:=by
 intro p j q hq;rw[h.kd j p] at hq;by_cases hm:j ∈ s.A.K p
 ·rw[ZP hm] at hq;cases hq
  obtain⟨d,hd,_⟩:=(h.kk p j).1 hm;exact(N.sh j d hd).2.2.2
 ·rw[ZI hm] at hq;cases hq
theorem SS.Num.bys_nonneg (N:s.Num)(h:s.Inv):0<=s.bys:=by unfold SS.bys;refine iI λj hj=>sJ λp hp=>?_;obtain⟨d,hd⟩:=(gJ h.lok).1 hj;have:=N.pk j d hd p hp;omega
theorem n6.bys (h:n6 s t now i b xs p r)(N:s.Num)(hi:i ∈ s.ids)(hq:(s.e i).q=p::r):s.bys=t.bys+p.len/\s.pks=t.pks+1:=by
 have e:t.ids=s.ids:=by unfold SS.ids;rw[h.L]
 unfold SS.bys SS.pks;rw[e];constructor
 ·refine fx N.nd hi (λj _ hj=>?_) ?_
  ·rw[h.q j,ZI hj]
  ·rw[h.q i,ZP rfl,hq];simp only[aA];omega
 ·refine fx N.nd hi (λj _ hj=>?_) ?_
  ·rw[h.q j,ZI hj]
  ·rw[h.q i,ZP rfl,hq];simp
theorem n6.num (h:n6 s t now i b xs p r)(N:s.Num)(I:s.Inv)(hc:fc s.L i=some c)(hq:(s.e i).q=p::r)(hnow:s.clk<=now/\now<=4611686018427387904):t.Num:=by
 have hi:i ∈ s.ids:=(gJ I.lok).2 ⟨c,hc⟩;obtain⟨e1,_⟩:=h.bys N hi hq;have hp:=N.pk i c hc p (by rw[hq];simp);have hN:=N.clk;refine⟨by unfold SS.ids;rw[h.L];exact N.nd,by rw[h.L];exact N.cin,by rw[h.Lm];exact N.lm,by rw[h.clk];omega,by rw[h.acc];exact N.acc,λj d hd=>?_,λj d hd q SF=>?_,λj d hd=>?_⟩
 ·rw[h.L] at hd;have:=N.tot j d hd;rw[h.tot,h.acc];split<;>omega
 ·rw[h.L] at hd;rw[h.q] at SF;rw[h.Lm];split at SF
  ·rename_i e;subst e;exact N.pk j d hd q (by rw[hq];simp[SF])
  ·exact N.pk j d hd q SF
 ·rw[h.L] at hd;rcases h.sh j with g|g
  ·rw[g];exact CH.low_zero
  ·rw[g];split
   ·exact CH.low_took (N.sh j d hd)
   ·exact N.sh j d hd
theorem jj.bys (h:jj s t now i xs p c)(N:s.Num)(hi:i ∈ s.ids):t.bys=s.bys+p.len/\t.pks=s.pks+1:=by
 have e:t.ids=s.ids:=by unfold SS.ids;rw[h.L]
 unfold SS.bys SS.pks;rw[e];constructor
 ·refine fx N.nd hi (λj _ hj=>?_) ?_
  ·rw[h.q j,ZI hj]
  ·rw[h.q i,ZP rfl,fa];simp only[aA];omega
 ·refine fx N.nd hi (λj _ hj=>?_) ?_
  ·rw[h.q j,ZI hj]
  ·rw[h.q i,ZP rfl];simp
theorem jj.num (h:jj s t now i xs p c)(N:s.Num)(I:s.Inv)(hx:∀y ∈ xs,∃d,fc s.L y=some d):t.Num:=by
 have hc:=h.cls.1;have hi:i ∈ s.ids:=(gJ I.lok).2 ⟨c,hc⟩;obtain⟨e1,_⟩:=h.bys N hi;have hp:=h.len;have hm:=h.more;have ht:=h.told;have hN:=N.clk;have hA:=N.acc;have hb:=N.bys_nonneg I;refine⟨by unfold SS.ids;rw[h.L];exact N.nd,by rw[h.L];exact N.cin,by rw[h.Lm];exact N.lm,by rw[h.clk];omega,by rw[h.acc];omega,λj d hd=>?_,λj d hd q SF=>?_,λj d hd=>?_⟩
 ·rw[h.L] at hd;have:=N.tot j d hd;rw[h.tot,h.acc];omega
 ·rw[h.L] at hd;rw[h.q] at SF;rw[h.Lm];split at SF
  ·rename_i e;subst e;rcases ZM.1 SF with g|g
   ·exact N.pk j d hd q g
   ·simp at g;rw[g];exact hp
  ·exact N.pk j d hd q SF
 ·rw[h.L] at hd;rcases h.sh j with g|⟨hjx,g⟩
  ·rw[g];exact N.sh j d hd
  ·rw[g,I.ec j d hd];have Nn:=N.cin d (fD hd).1;have YB:=N.tot j d hd;exact CH.low_wake (N.sh j d hd) Nn.2.1 Nn.2.2 (qi (λk q hq=>N.vt I _ _ _ hq)) ρa
theorem SS.Num.told (N:s.Num)(h:s.clk<=now/\now<=4611686018427387904):({s with clk:=now}:SS).Num:=⟨N.nd,N.cin,N.lm,by have:=N.clk;show 0<=now/\now<=_;omega,N.acc,N.tot,N.pk,N.sh⟩
end
structure EV where
 (op:Int)
 (inn real:Bool)
 (at_ done cls:Int)
 (pk:PK)
structure YS where
 (s:SS)
 (til clk:Int)
 (ev:List EV)
noncomputable def YS.due (y:YS):Int:=min (di y.s.lv) (fitT (y.s.kd 0))
noncomputable def YS.next (y:YS):Int:=max y.clk (max y.til y.due)
inductive fN (op:Int) (y:YS):YS->Prop
 | busy:y.clk<y.til->fN op y y
 | idle:y.til<=y.clk->SS.Choose {y.s with clk:=y.clk} y.clk none->fN op y {y with s:={y.s with clk:=y.clk}}
 | pick {i:Int} {x:Bool} {c:CD} {xs:List Int} {p:PK} {r:List PK}:y.til<=y.clk->SS.Choose {y.s with clk:=y.clk} y.clk (some (i,x))->fc y.s.L i=some c->(y.s.e i).q=p::r->dy y.s.L i xs->fN op y ⟨y.s.take y.clk i x xs,y.clk+y.s.T*p.len,y.clk,y.ev++[⟨op,false,x,y.clk,y.clk+y.s.T*p.len,i,p⟩]⟩
inductive bY (op stop:Int):YS->YS->Prop
 | done {y:YS}:stop<y.next->bY op stop y {y with clk:=stop}
 | next {y z t:YS}:y.next<=stop->fN op {y with clk:=y.next} z->bY op stop z t->bY op stop y t
inductive kX (op:Int) (y:YS):YS->Prop
 | nothing:kX op y y
 | refused {i n:Int} {p:PK} {xs:List Int} {s':SS}:xs.Nodup->y.s.put y.clk i p xs=(n,s')->n≠0->kX op y {y with s:=s'}
 | packet {i:Int} {p:PK} {xs:List Int} {s':SS} {z:YS}:(∀c,fc y.s.L i=some c->kL y.s.L i xs)->y.s.put y.clk i p xs=(0,s')->fN op {y with s:=s',ev:=y.ev++[⟨op,true,false,y.clk,0,i,p⟩]} z->kX op y z
 | adv {stop:Int} {z:YS}:y.clk<=stop->stop<=4611686018427387904->bY op stop y z->kX op y z
structure YS.Ok0 (y:YS):Prop where
 inv:y.s.Inv
 num:y.s.Num
 clk:y.s.clk<=y.clk/\0<=y.clk/\y.clk<=4611686018427387904
 tt:1<=y.s.T/\y.s.T<=65536
 til:0<=y.til/\y.til<=4611686019501129728
structure YS.Ok (y:YS):Prop extends y.Ok0 where
 idle:y.til<=y.clk->y.clk<y.due
theorem wV {L:List CD} (h:mO L) {i:Int} {c:CD} {xs:List Int} (hc:fc L i=some c)(hu:dy L i xs):kL L i xs:=by obtain⟨ys,P⟩:=h.path hc;rw[jM hu P.up];exact P
theorem uK {T l:Int} (hT:1<=T/\T<=65536)(hl:1<=l/\l<=16384):1<=T*l/\T*l<=1073741824:=by have h1:1*1<=T*l:=Int.mul_le_mul hT.1 hl.1 ρa ρa;have h2:T*l<=65536*16384:=Int.mul_le_mul hT.2 hl.2 ρa ρa;omega
section
variable {op:Int} {y z:YS}
theorem YS.Ok0.told (h:y.Ok0):({y.s with clk:=y.clk}:SS).Inv/\({y.s with clk:=y.clk}:SS).Num:=⟨h.inv.clk _,h.num.told ⟨h.clk.1,h.clk.2.2⟩⟩
theorem YS.Ok0.pick {i:Int} {x:Bool} {c:CD} {xs:List Int} {p:PK} {r:List PK} (h:y.Ok0)(Kh:SS.Choose {y.s with clk:=y.clk} y.clk (some (i,x)))(hc:fc y.s.L i=some c)(hq:(y.s.e i).q=p::r)(hu:dy y.s.L i xs):kL y.s.L i xs/\c.lf=true/\n6 y.s (y.s.take y.clk i x xs) y.clk i x xs p r/\(y.s.take y.clk i x xs).Inv/\(y.s.take y.clk i x xs).Num/\(1<=p.len/\p.len<=y.s.Lm)/\(1<=y.s.T*p.len/\y.s.T*p.len<=1073741824):=by have P:=wV h.inv.lok hc hu;obtain⟨d,_,_,_,hd,hl,_⟩:=h.told.1.chosen Kh;have hd:fc y.s.L i=some d:=hd;rw[hc] at hd;cases hd;have T:=tY y.clk x hq P.hd (ZD.1 P.nd).2;have hp:=h.num.pk i c hc p (by rw[hq];simp);have hL:=h.num.lm;exact⟨P,hl,T,h.inv.take hc hl hq P,T.num h.num h.inv hc hq ⟨h.clk.1,h.clk.2.2⟩,hp,uK h.tt ⟨hp.1,by omega⟩⟩
theorem fN.ok (hp:fN op y z)(h:y.Ok0):z.Ok/\z.clk=y.clk/\z.s.L=y.s.L/\z.s.T=y.s.T/\z.s.Lm=y.s.Lm:=by
 cases hp with
 | busy hb=>exact⟨⟨h,λg=>by omega⟩,rfl,rfl,rfl,rfl⟩
 | idle hb Kh=>obtain⟨I,N⟩:=h.told;refine⟨⟨⟨I,N,⟨ZJ _,h.clk.2⟩,h.tt,h.til⟩,λ_=>I.idle h.clk.2.2 Kh⟩,rfl,rfl,rfl,rfl⟩
 | pick hb Kh hc hq hu=>obtain⟨P,hl,T,I,N,hp,ht⟩:=h.pick Kh hc hq hu;have h1:=h.clk;refine⟨⟨⟨I,N,⟨by show SS.clk _<=_;rw[T.clk];exact ZJ _,h.clk.2⟩,by show 1<=SS.T _/\SS.T _<=_;rw[T.T];exact h.tt,by simp only[];omega⟩,λg=>by simp only[] at g;omega⟩,rfl,T.L,T.T,T.Lm⟩
theorem YS.Ok.at_next (h:y.Ok) {stop:Int} (hs:stop<=4611686018427387904)(hn:y.next<=stop):({y with clk:=y.next}:YS).Ok0:=by
 have h1:=h.clk;have:y.clk<=y.next:=by unfold YS.next;omega
 exact⟨h.inv,h.num,⟨by simp only[];omega,by simp only[];omega,by simp only[];omega⟩,h.tt,h.til⟩
theorem bY.ok {stop:Int} (hr:bY op stop y z)(h:y.Ok)(hs:stop<=4611686018427387904)(h0:y.clk<=stop):z.Ok/\z.clk=stop/\z.s.L=y.s.L/\z.s.T=y.s.T/\z.s.Lm=y.s.Lm:=by
 induction hr with
 | @done y hn=>have h1:=h.clk;refine⟨⟨⟨h.inv,h.num,⟨by simp only[];omega,by simp only[];omega,hs⟩,h.tt,h.til⟩,λg=>?_⟩,rfl,rfl,rfl,rfl⟩;have g:y.til<=stop:=g;show stop<y.due;unfold YS.next at hn;omega
 | @next y z t hn hp _ ih=>have h1:=h.clk;have ha:=h.at_next hs hn;obtain⟨g1,g2,g3,g4,g5⟩:=hp.ok ha;obtain⟨k1,k2,k3,k4,k5⟩:=ih g1 (by rw[g2];exact hn);exact⟨k1,k2,k3.trans g3,k4.trans g4,k5.trans g5⟩
theorem kX.ok (hs:kX op y z)(h:y.Ok):z.Ok/\y.clk<=z.clk/\z.s.L=y.s.L/\z.s.T=y.s.T/\z.s.Lm=y.s.Lm:=by
 cases hs with
 | nothing=>exact⟨h,ZJ _,rfl,rfl,rfl⟩
 | refused hn e JX=>
  rcases bW h.inv.ec hn e with ⟨_,rfl|⟨rfl,_⟩⟩|⟨g,_⟩
  ·exact⟨h,ZJ _,rfl,rfl,rfl⟩
  ·obtain⟨I,N⟩:=h.told;exact⟨⟨⟨I,N,⟨ZJ _,h.clk.2⟩,h.tt,h.til⟩,h.idle⟩,ZJ _,rfl,rfl,rfl⟩
  ·exact az g JX
 | @packet i p xs s' z hP e hp=>
  have I:=h.inv.put hP e;have hn:xs.Nodup\/fc y.s.L i=none:=by
   cases hc:fc y.s.L i with
   | none=>exact .inr rfl
   | some c=>exact ηL
  rcases hn with hn|hn
  ·rcases bW h.inv.ec hn e with ⟨g,_⟩|⟨_,c,F⟩
   ·exact az rfl g
   ·have P:=hP c F.cls.1;refine δb ?_;intro N O;obtain⟨g1,g2,g3,g4,g5⟩:=hp.ok O;exact⟨g1,by rw[g2];exact ZJ _,g3.trans F.L,g4.trans F.T,g5.trans F.Lm⟩
  ·exact ξ9
 | adv h0 h1 hr=>obtain⟨g1,g2,g3⟩:=hr.ok h h1 h0;exact⟨g1,by rw[g2];exact h0,g3⟩
end
def dU (i:Int)(e:EV):Bool:=e.inn && decide (e.cls=i)
def dk (i:Int)(e:EV):Bool:=!e.inn && decide (e.cls=i)
def ins (i:Int)(l:List EV):List PK:=(l.filter (dU i)).map EV.pk
def bD (i:Int)(l:List EV):List PK:=(l.filter (dk i)).map EV.pk
theorem eP (i:Int)(a b:List EV):ins i (a++b)=ins i a++ins i b:=by simp[ins]
theorem cG (i:Int)(a b:List EV):bD i (a++b)=bD i a++bD i b:=by simp[bD]
theorem dh (i:Int)(e:EV)(l:List EV):ins i (e::l)=if dU i e=true then e.pk::ins i l else ins i l:=by unfold ins;rw[List.filter_cons];split<;>rfl
theorem bP (i:Int)(e:EV)(l:List EV):bD i (e::l)=if dk i e=true then e.pk::bD i l else bD i l:=by unfold bD;rw[List.filter_cons];split<;>rfl
theorem fj {i:Int} {e:EV}:dU i e=true↔e.inn=true/\e.cls=i:=by simp[dU]
theorem dF {i:Int} {e:EV}:dk i e=true↔e.inn=false/\e.cls=i:=by simp[dk]
theorem fo {i:Int} {e:EV} (h:dU i e=true):dk i e=false:=by rw[fj] at h;simp[dk,h.1]
theorem lT {i:Int} {e:EV} (h:dk i e=true):dU i e=false:=by rw[dF] at h;simp[dU,h.1]
theorem te {i:Int} {p:PK} {y:List PK}:∀{l:List EV} {x:List PK},ins i l=x++p::y->∃l1 e l2,l=l1++e::l2/\dU i e=true/\e.pk=p/\ins i l1=x
 | [],x,h=>by simp[ins] at h
 | e::l,x,h=>by
  rw[dh] at h;by_cases he:dU i e=true
  ·rw[ZP he] at h;cases x with
   | nil=>exact⟨[],e,l,rfl,he,(List.cons.inj h).1,rfl⟩
   | cons z x=>obtain⟨h1,h2⟩:=List.cons.inj h;obtain⟨l1,e',l2,rfl,g2,g3,g4⟩:=te h2;exact⟨e::l1,e',l2,rfl,g2,g3,by rw[dh,ZP he,g4,h1]⟩
  ·rw[ZI he] at h;obtain⟨l1,e',l2,rfl,g2,g3,g4⟩:=te h;exact⟨e::l1,e',l2,rfl,g2,g3,by rw[dh,ZI he,g4]⟩
theorem Bb {i:Int} {l:List EV} {p:PK} (h:p ∈ ins i l):∃e ∈ l,e.inn=true/\e.pk=p:=by obtain⟨e,he,rfl⟩:=List.mem_map.1 h;obtain⟨h1,h2⟩:=ZE.1 he;exact⟨e,h1,(fj.1 h2).1,rfl⟩
def xd (m d n TL i:Int)(a:List EV)(dn:Int):Prop:=∃a1 ea a2 s1 es s2 t,a=a1++ea::a2/\dU i ea=true/\ins i a1=bD i a/\a1++[ea]=s1++es::s2/\dU i es=true/\ins i s1=bD i s1/\dn<=t+TL/\sv m d n (max (t - 1 - es.at_) 0)<aA (ins i (es::s2))*65536
structure Gh (m d n i:Int) (l:LF) (q:List PK) (ev:List EV):Prop where
 fifo:ins i ev=bD i ev++q
 ws:l.has=true->∃ws:List WN,il m d n ws l.D/\∀v ∈ ws,v.ok/\v.p<=l.p/\∃s1 e s2,ev=s1++e::s2/\dU i e=true/\e.at_=v.at_/\ins i s1=bD i s1/\l.p - v.p<=aA (bD i s2)
section
variable {m d n i now TL dn:Int} {l l':LF} {q r:List PK} {p:PK} {ev:List EV}
theorem Gh.good (hc:cV m d n)(G:Gh m d n i l (p::r) ev)(H:Lf m d n now l (av (p::r)))(hp:1<=p.len)(hb:∀e ∈ ev,e.inn=true->0<=e.pk.len)(No:dn<=l.t+TL):xd m d n TL i ev dn:=by
 have h0:(0:Int)<av (p::r):=by show (0:Int)<p.len;omega
 obtain⟨h1,_,h3⟩:=H.hs h0;obtain⟨ws,F,Qf⟩:=G.ws h1;have hr:=H.rng;obtain⟨t1,v,hv,ha⟩:=qP hc F (P:=l.p) (W:=(l.p+av (p::r))*65536) hr.1 (λv hv=>⟨(Qf v hv).1,(Qf v hv).2.1⟩) ρa;rw[<- h3] at t1 ha;have hh:av (p::r)=p.len:=rfl;rw[hh] at ha;obtain⟨vok,vp,s1,e,s2,rfl,he,Mq,hs,Pe⟩:=Qf v hv;have hf:=G.fifo;have e1:ins i (e::s2)=bD i s2++p::r:=by rw[eP,cG,hs,bP,ZI (by rw[fo he];simp),List.append_assoc] at hf;exact List.append_cancel_left hf
 obtain⟨b1,ea,a2,hd,hea,RJ,JL⟩:=te e1;have e2:∃s2',b1++[ea]=e::s2':=by
  cases b1 with
  | nil=>exact⟨[],by simp at hd ⊢;exact hd.1.symm⟩
  | cons z b=>exact⟨b++[ea],by simp at hd ⊢;exact hd.1.symm⟩
 obtain⟨s2',e2⟩:=e2;refine⟨s1++b1,ea,a2,s1,e,s2',l.t,by rw[hd,List.append_assoc],hea,?_,by rw[List.append_assoc,e2],he,hs,No,?_⟩
 ·rw[eP,cG,hs,JL,bP,ZI (by rw[fo he];simp)]
 ·rw[<- e2,eP,JL,fa,dh,ZP hea,RJ];show _<(aA (bD i s2)+(p.len+0))*65536;rw[Mq];unfold WN.asked WN.val at ha;split at ha
  ·rw[show max (l.t - 1 - v.at_) 0=l.t - 1 - v.at_ by omega];omega
  ·rw[show max (l.t - 1 - v.at_) 0=0 by omega];have:sv m d n 0=0:=by unfold sv;rw[ZP hc.2.2.1.1,Int.mul_zero]
   have g2:0<=aA (bD i s2):=ρa;omega
theorem Gh.other (G:Gh m d n i l q ev) {e:EV} (he:e.cls≠i):Gh m d n i l q (ev++[e]):=by
 have h1:dU i e=false:=by simp[dU,he]
 have h2:dk i e=false:=by simp[dk,he]
 refine⟨?_,λh=>?_⟩
 ·rw[eP,cG,dh,bP,h1,h2];simpa [ins,bD] using G.fifo
 ·exact ηa
theorem Gh.come (G:Gh m d n i l q ev) {e:EV} (he:dU i e=true):Gh m d n i l (q++[e.pk]) (ev++[e]):=by
 have h2:=fo he;refine⟨?_,λh=>?_⟩
 ·rw[eP,cG,dh,bP,h2,ZP he,G.fifo];simp[ins,bD]
 ·exact ηa
theorem Gh.wake (hc:cV m d n)(G:Gh m d n i l [] ev) {e:EV} (he:dU i e=true)(hv:WN.ok ⟨e.at_,l.p⟩)(e1:l'.p=l.p)(e3:l'.D=if l.has then RN.meet l.D (WN.start m d n ⟨e.at_,l.p⟩) else WN.start m d n ⟨e.at_,l.p⟩):Gh m d n i l' [e.pk] (ev++[e]):=by
 have h2:=fo he;have hf:=G.fifo;rw[ZA] at hf;have new:(⟨e.at_,l.p⟩:WN).ok/\(⟨e.at_,l.p⟩:WN).p<=l'.p/\∃s1 e' s2,ev++[e]=s1++e'::s2/\dU i e'=true/\e'.at_=(⟨e.at_,l.p⟩:WN).at_/\ins i s1=bD i s1/\l'.p - (⟨e.at_,l.p⟩:WN).p<=aA (bD i s2):=
  ⟨hv,by rw[e1];exact ZJ _,ev,e,[],rfl,he,rfl,hf,by rw[e1];show l.p - l.p<=0;omega⟩
 refine⟨?_,λ_=>?_⟩
 ·rw[eP,cG,dh,bP,h2,ZP he,hf];simp[ins,bD]
 ·rw[e3];cases hh:l.has with
  | false=>rw[ZI ρp];exact⟨[⟨e.at_,l.p⟩],il.one hc hv,λv hvm=>by rw[ZS.1 hvm];exact new⟩
  | true=>
   obtain⟨ws,F,Qf⟩:=G.ws hh;rw[ZP rfl];have M:=il.meet (v:=⟨e.at_,l.p⟩) hc F hv;refine⟨_,M,λv hvm=>?_⟩;rcases ZM.1 hvm with g|g
   ·obtain⟨a,b,s1,e',s2,rfl,c1,c2,c3,c4⟩:=Qf v g;exact⟨a,by rw[e1];exact b,s1,e',s2++[e],by simp,c1,c2,c3,by rw[e1,cG,bP,h2];simpa [bD] using c4⟩
   ·rw[ZS.1 g];exact new
theorem Gh.go (G:Gh m d n i l (p::r) ev) {e:EV} (he:dk i e=true)(RJ:e.pk=p)(e1:l'.has=l.has)(e2:l'.D=l.D)(e3:l.p<=l'.p/\l'.p<=l.p+p.len)(hp:0<=p.len):Gh m d n i l' r (ev++[e]):=by
 have h2:=lT he;refine⟨?_,λh=>?_⟩
 ·rw[eP,cG,dh,bP,h2,ZP he,G.fifo,RJ];simp[ins,bD]
 ·obtain⟨ws,F,Qf⟩:=G.ws (e1 ▸ h);refine⟨ws,e2 ▸ F,λv hv=>?_⟩;obtain⟨a,b,s1,e',s2,rfl,c1,c2,c3,c4⟩:=Qf v hv;refine⟨a,by omega,s1,e',s2++[e],by simp,c1,c2,c3,?_⟩;rw[cG,bP,ZP he,RJ,fa];show _<=aA (bD i s2)+(p.len+0);omega
end
theorem gf {l:LF} {h:Int} (hp:0<=l.p/\l.p<=1099511627776)(hh:0<=h/\h<=16384):(l.headed h).has=l.has/\(l.headed h).D=l.D/\(l.headed h).E=l.E/\(l.headed h).p=l.p/\(0<h->(l.headed h).e=l.E.reach (l.p*65536)/\(l.headed h).t=l.D.reach ((l.p+h)*65536)):=by
 unfold LF.headed;split
 ·refine⟨rfl,rfl,rfl,rfl,λ_=>⟨rfl,?_⟩⟩;show l.D.reach _=_;rw[ZZ _ ⟨by omega,by omega⟩]
 ·exact⟨rfl,rfl,rfl,rfl,λh=>by omega⟩
theorem vf {l:LF} {s h:Int} (hp:0<=l.p/\l.p+s<=1099511627776)(hs:0<=s)(hh:0<=h/\h<=16384):(l.took s h).has=l.has/\(l.took s h).D=l.D/\(l.took s h).E=l.E/\(l.took s h).p=l.p+s/\(0<h->(l.took s h).e=l.E.reach ((l.p+s)*65536)/\(l.took s h).t=l.D.reach ((l.p+s+h)*65536)):=by unfold LF.took;rw[show max s 0=s by omega,show IntKind.u64.wrap (l.p+s)=l.p+s from ZZ _ ⟨by omega,by omega⟩];exact gf (l:=⟨l.has,l.D,l.E,l.p+s,l.e,l.t⟩) ⟨by show 0<=l.p+s;omega,hp.2⟩ hh
theorem gI {q:List PK} {N:Int} (h:∀p ∈ q,1<=p.len/\p.len<=N)(hN:0<=N):0<=av q/\av q<=N/\(av q=0↔q=[]):=by
 cases q with
 | nil=>exact⟨ZJ _,hN,by simp[av]⟩
 | cons p r=>have:=h p ρp;exact⟨by show 0<=p.len;omega,this.2,by simp only[av];constructor<;>intro g;omega;cases g⟩
theorem jw {P:List EV->EV->Prop} {f:EV->Bool} {ev:List EV} {e:EV} (h:∀a v b,ev=a++v::b->f v=true->P a v)(hn:f e=true->P ev e):∀a v b,ev++[e]=a++v::b->f v=true->P a v:=by
 intro a v b hb hv;rcases List.eq_nil_or_concat b with rfl|⟨b',z,rfl⟩
 ·obtain⟨rfl,h2⟩:=List.append_inj' hb rfl;cases h2;exact hn hv
 ·have JR:ev++[e]=(a++v::b')++[z]:=by rw[hb];simp
  obtain⟨h1,_⟩:=List.append_inj' JR rfl;exact h a v b' h1 hv
theorem IB.congr {T Lm now:Int} {R:List Int} {c:Int->Int × Int × Int} {l l':Int->LF} {h h':Int->Int} {dl x:Int} (e:∀i ∈ R,l' i=l i/\h' i=h i)(I:IB T Lm now R c l h dl x):IB T Lm now R c l' h' dl x:=by obtain⟨t0,p0,h1,h2,h3⟩:=I;refine⟨t0,p0,h1,?_,λi hi=>by rw[(e i hi).1,(e i hi).2];exact h3 i hi⟩;rw[show cI (λi=>(l' i).p - p0 i) R=cI (λi=>(l i).p - p0 i) R from gW λi hi=>by rw[(e i hi).1]];exact h2
structure DS (T Lm:Int) (R:List Int) (c:Int->Int × Int × Int) (now x:Int) (l:Int->LF) (q:Int->List PK) (ev:List EV):Prop where
 lfs:∀i ∈ R,cV (c i).1 (c i).2.1 (c i).2.2/\Lf (c i).1 (c i).2.1 (c i).2.2 now (l i) (av (q i))
 gh:∀i ∈ R,Gh (c i).1 (c i).2.1 (c i).2.2 i (l i) (q i) ev
 ib:∀dl,0<=dl/\dl<=9223372036854775807->IB T Lm now R c l (λi=>av (q i)) dl x
 hist:∀i ∈ R,∀a v b,ev=a++v::b->dk i v=true->xd (c i).1 (c i).2.1 (c i).2.2 (T*Lm) i a v.done
 len:∀e ∈ ev,e.inn=true->1<=e.pk.len/\e.pk.len<=Lm
 tm:ev.Pairwise (λa b=>a.at_<=b.at_)/\∀e ∈ ev,0<=e.at_/\e.at_<=now
section
variable {T Lm now now' x x':Int} {R:List Int} {c:Int->Int × Int × Int} {l l':Int->LF} {q q':Int->List PK} {ev:List EV} {e:EV} {k:Int} {p:PK} {r:List PK}
theorem pj (h:ev.Pairwise (λa b=>a.at_<=b.at_)/\∀e ∈ ev,0<=e.at_/\e.at_<=now)(h0:0<=now)(he:e.at_=now):(ev++[e]).Pairwise (λa b=>a.at_<=b.at_)/\∀z ∈ ev++[e],0<=z.at_/\z.at_<=now:=by
 refine⟨List.pairwise_append.2 ⟨h.1,List.pairwise_singleton _ _,λa ha b hb=>?_⟩,λz hz=>?_⟩
 ·rw[ZS.1 hb,he];exact(h.2 a ha).2
 ·rcases ZM.1 hz with g|g
  ·exact h.2 z g
  ·rw[ZS.1 g];omega
theorem ld {P:EV->Prop} (h:∀e ∈ ev,e.inn=true->P e)(he:e.inn=true->P e):∀z ∈ ev++[e],z.inn=true->P z:=by
 intro z hz hi;rcases ZM.1 hz with g|g
 ·exact h z g hi
 ·rw[ZS.1 g] at hi ⊢;exact he hi
theorem DS.qs (H:DS T Lm R c now x l q ev) {i:Int} (hi:i ∈ R):∀p ∈ q i,1<=p.len/\p.len<=Lm:=by intro p hp;obtain⟨e,he,h1,rfl⟩:=Bb (i:=i) (l:=ev) (p:=p) (by rw[(H.gh i hi).fifo];simp[hp]);exact H.len e he h1
theorem DS.later (H:DS T Lm R c now x l q ev)(hn:now<=now'):DS T Lm R c now' x l q ev:=
 ⟨λi hi=>⟨(H.lfs i hi).1,(H.lfs i hi).2.later hn⟩,H.gh,λdl hd=>(H.ib dl hd).later hn,H.hist,H.len,H.tm.1,λe he=>by have:=H.tm.2 e he;omega⟩
theorem DS.less (H:DS T Lm R c now x l q ev)(hx:x'<=x):DS T Lm R c now x' l q ev:=⟨H.lfs,H.gh,λdl hd=>(H.ib dl hd).less hx,H.hist,H.len,H.tm⟩
theorem DS.reset (t0:Int)(H:DS T Lm R c now x l q ev)(h0:0<=now/\now<=t0)(ht:t0<=now'/\now'<=4611686018427387904)(he:∀i ∈ R,q i≠[]->t0<(l i).e)(hx:x'<=t0+T*Lm):DS T Lm R c now' x' l q ev:=by have hL:=H.later (now':=now') ρa;refine⟨hL.lfs,hL.gh,λdl hd=>IB.reset t0 H.lfs h0 ⟨ht.1,by omega⟩ hd.2 (λi hi hh=>he i hi (λe=>?_)) hx,hL.hist,hL.len,hL.tm⟩;rw[e] at hh;exact az hh (by simp[av])
theorem DS.put (H:DS T Lm R c now x l q ev)(h0:0<=now)(he:e.inn=true/\e.cls=k/\e.at_=now)(hp:1<=e.pk.len/\e.pk.len<=Lm)(hl:∀i ∈ R,l' i=l i)(hq:∀i ∈ R,q' i=if i=k then q k++[e.pk] else q i)(hk:k ∈ R->q k≠[]):DS T Lm R c now x l' q' (ev++[e]):=by
 have hh:∀i ∈ R,av (q' i)=av (q i):=λi hi=>by
  rw[hq i hi];split
  ·rename_i g;subst g;cases hqi:q i with
   | nil=>exact az hqi (hk hi)
   | cons z r=>rfl
  ·rfl
 refine⟨λi hi=>?_,λi hi=>?_,λdl hd=>(H.ib dl hd).congr (λi hi=>⟨hl i hi,hh i hi⟩),λi hi=>jw (H.hist i hi) (λg=>?_),ld H.len (λ_=>hp),pj H.tm h0 he.2.2⟩
 ·rw[hl i hi,hh i hi];exact H.lfs i hi
 ·rw[hl i hi,hq i hi];split
  ·rename_i g;subst g;exact(H.gh i hi).come (fj.2 ⟨he.1,he.2.1⟩)
  ·rename_i g;exact(H.gh i hi).other τW
 ·rw[dF,he.1] at g;exact az g.1 ρp
theorem DS.wake (H:DS T Lm R c now x l q ev)(h0:0<=now/\now<=4611686018427387904)(Sp:Lm<=16384)(he:e.inn=true/\e.cls=k/\e.at_=now)(hp:1<=e.pk.len/\e.pk.len<=Lm)(hk:k ∈ R)(RK:q k=[])(hl:∀i,l' i=if i=k then ((l k).woke (c k).1 (c k).2.1 (c k).2.2 now).headed e.pk.len else l i)(hq:∀i,q' i=if i=k then [e.pk] else q i):DS T Lm R c now x l' q' (ev++[e]):=by
 obtain⟨hc,F⟩:=H.lfs k hk;have hr:=F.rng;have hwp:((l k).woke (c k).1 (c k).2.1 (c k).2.2 now).p=(l k).p:=rfl;obtain⟨e1,e2,e3,e4,e5⟩:=gf (l:=(l k).woke (c k).1 (c k).2.1 (c k).2.2 now) (h:=e.pk.len) (by rw[hwp];exact hr) ρa;have e5:=e5 ρa;have lk:l' k=((l k).woke (c k).1 (c k).2.1 (c k).2.2 now).headed e.pk.len:=by rw[hl];exact ZP rfl
 have qk:q' k=[e.pk]:=by rw[hq];exact ZP rfl
 have hv:WN.ok ⟨now,(l k).p⟩:=by unfold WN.ok vk;simp only[];omega
 have hD:(l' k).D=if (l k).has then RN.meet (l k).D (WN.start (c k).1 (c k).2.1 (c k).2.2 ⟨now,(l k).p⟩) else WN.start (c k).1 (c k).2.1 (c k).2.2 ⟨now,(l k).p⟩:=by rw[lk,e2];rfl
 have hE:(l' k).E=if (l k).has then RN.meet (l k).E (WN.ready (c k).1 (c k).2.1 (c k).2.2 ⟨now,(l k).p⟩) else WN.ready (c k).1 (c k).2.1 (c k).2.2 ⟨now,(l k).p⟩:=by rw[lk,e3];rfl
 have hhas:(l' k).has=true:=by rw[lk,e1];rfl
 have hP:(l' k).p=(l k).p:=by rw[lk,e4];rfl
 have K:LK (c k).1 (c k).2.1 (c k).2.2 now (l' k).D (l' k).E:=by
  rw[hD,hE];cases hh:(l k).has with
  | false=>exact LK.one hc ⟨now,(l k).p⟩ hv
  | true=>exact LK.meet hc ⟨now,(l k).p⟩ hv (F.lk hh)
 have hT:(l' k).t=(l' k).D.reach (((l' k).p+e.pk.len)*65536):=by rw[hP];rw[lk,e5.2,e2];rfl
 have hEe:(l' k).e=(l' k).E.reach ((l' k).p*65536):=by rw[hP];rw[lk,e5.1,e3];rfl
 have hh:∀i,i≠k->l' i=l i/\av (q' i)=av (q i):=λi hi=>by rw[hl,hq,ZI hi,ZI hi];exact⟨rfl,rfl⟩
 have MG:av (q k)=0:=by rw[RK];rfl
 have Sz:av (q' k)=e.pk.len:=by rw[qk];rfl
 refine⟨λi hi=>?_,λi hi=>?_,λdl hd=>?_,λi hi=>jw (H.hist i hi) (λg=>?_),ld H.len (λ_=>hp),pj H.tm h0.1 he.2.2⟩
 ·by_cases g:i=k
  ·subst g;rw[Sz];exact⟨hc,by rw[hP];exact hr,by omega,λ_=>K,λ_=>⟨hhas,hEe,hT⟩⟩
  ·rw[(hh i g).1,(hh i g).2];exact H.lfs i hi
 ·by_cases g:i=k
  ·subst g;rw[qk];have G:=H.gh i hi;rw[RK] at G;refine G.wake hc (fj.2 ⟨he.1,he.2.1⟩) (by rw[he.2.2];exact hv) hP (by rw[he.2.2];exact hD)
  ·rw[hl,hq,ZI g,ZI g];exact(H.gh i hi).other τW
 ·refine IB.wake (k:=k) H.lfs h0 hd hh MG (by simp only[Sz];omega) (λm d n Le=>?_) (H.ib dl hd);rw[Le] at hD;exact⟨hhas,hP,hD,by simp only[Sz];exact hT,K.pair.1⟩
 ·rw[dF,he.1] at g;exact az g.1 ρp
theorem DS.real (H:DS T Lm R c now now l q ev)(hR:R.Nodup)(hA:GS T R c)(hT:1<=T)(Sp:1<=Lm/\Lm<=16384)(hTL:T*Lm<=1073741824)(h0:0<=now/\now<=4611686018427387904)(he:e.inn=false/\e.cls=k/\e.at_=now/\e.pk=p/\e.done=now+T*p.len)(hk:k ∈ R)(RK:q k=p::r)(hp:(l k).p+p.len<=1099511627776)(hmin:∀i ∈ R,q i≠[]->(l i).e<=now->(l k).t<=(l i).t)(hl:∀i,l' i=if i=k then (l k).took p.len (av r) else l i)(hq:∀i,q' i=if i=k then r else q i):DS T Lm R c now (now+T*p.len) l' q' (ev++[e]):=by
 obtain⟨hc,F⟩:=H.lfs k hk;have hr:=F.rng;have Lc:=H.qs hk p (by rw[RK];simp);have Mz:=gI (q:=r) (N:=Lm) (λz hz=>H.qs hk z (by rw[RK];simp[hz])) ρa;obtain⟨e1,e2,e3,e4,e5⟩:=vf (l:=l k) (s:=p.len) (h:=av r) ⟨hr.1,hp⟩ ρa ρa;have lk:l' k=(l k).took p.len (av r):=by rw[hl];exact ZP rfl
 have qk:q' k=r:=by rw[hq];exact ZP rfl
 rw[<- lk] at e1 e2 e3 e4 e5;have hh:∀i,i≠k->l' i=l i/\av (q' i)=av (q i):=λi hi=>by rw[hl,hq,ZI hi,ZI hi];exact⟨rfl,rfl⟩
 have MG:av (q k)=p.len:=by rw[RK];rfl
 have Sz:av (q' k)=av r:=by rw[qk]
 have F':=F;rw[MG] at F';have hTp:T*p.len<=T*Lm:=ZU Lc.2 ρa;have hmin':∀i ∈ R,0<av (q i)->(l i).e<=now->(l k).t<=(l i).t:=λi hi g1 g2=>hmin i hi (λg=>by rw[g] at g1;exact az g1 (by simp[av])) g2;have t0:0<=(l k).t:=by obtain⟨g1,_,g3⟩:=F'.hs ρa;rw[g3];exact(RN.reach_rng (RN.small_ok (F'.lk g1).pair.1) _).1
 refine⟨λi hi=>?_,λi hi=>?_,λdl hd=>?_,λi hi=>jw (H.hist i hi) (λg=>?_),ld H.len (λg=>by rw[he.1] at g;cases g),pj H.tm h0.1 he.2.2.1⟩
 ·by_cases g:i=k
  ·subst g;rw[Sz];refine⟨hc,by rw[e4];omega,by omega,λg=>?_,λg=>?_⟩
   ·rw[e2,e3];exact F.lk (e1 ▸ g)
   ·have:=e5 g;rw[e1,e4,e2,e3];exact⟨(F'.hs ρa).1,this.1,this.2⟩
  ·rw[(hh i g).1,(hh i g).2];exact H.lfs i hi
 ·by_cases g:i=k
  ·subst g;rw[qk];exact ηU
  ·rw[hl,hq,ZI g,ZI g];exact(H.gh i hi).other τW
 ·by_cases MF:(l k).t<=dl
  ·have:=IB.took (k:=k) (l':=l') (h':=λi=>av (q' i)) hR hk H.lfs (by simp only[MG];omega) MF hh e1 (by simp only[MG];exact e4) e2 (H.ib dl hd);simp only[MG] at this;exact this
  ·refine IB.late (k:=k) H.lfs ⟨h0.1,by omega⟩ hd.2 ρa (by simp only[MG];omega) hmin' hh e2 (by simp only[MG];exact e4) (by simp only[Sz];omega) (λg=>?_) ρa;simp only[Sz] at g ⊢;rw[e4,e2];exact(e5 g).2
 ·obtain⟨_,rfl⟩:=dF.1 g;have hek:=he.2.1;rw[hek] at hi ⊢;have G:=H.gh k hk;rw[RK] at G;refine G.good hc (by rw[show av (p::r)=p.len from rfl];exact F') Lc.1 (λz hz hi=>by have:=H.len z hz hi;omega) ?_;rw[he.2.2.2.2];by_cases ht:(l k).t<=Mb
  ·have:=IB.done (k:=k) ρa hA hR hk H.lfs (by simp only[MG];omega) rfl (H.ib (l k).t ⟨t0,ht⟩);simp only[MG] at this;exact this
  ·omega
theorem DS.share (H:DS T Lm R c now x l q ev)(hT:1<=T)(Sp:1<=Lm/\Lm<=16384)(h0:0<=now/\now<=4611686018427387904)(he:e.inn=false/\e.cls=k/\e.at_=now/\e.pk=p/\e.done=now+T*p.len)(RK:q k=p::r)(hp:p.len<=Lm)(Ug:∀i ∈ R,q i≠[]->now<(l i).e)(hl:∀i ∈ R,l' i=if i=k then (l k).headed (av r) else l i)(hq:∀i,q' i=if i=k then r else q i):DS T Lm R c now (now+T*p.len) l' q' (ev++[e]):=by
 have hTp:T*p.len<=T*Lm:=ZU hp ρa;have key:∀i ∈ R,i=k->cV (c i).1 (c i).2.1 (c i).2.2/\(l' i).has=(l i).has/\(l' i).D=(l i).D/\(l' i).E=(l i).E/\(l' i).p=(l i).p/\(0<av r->(l' i).e=(l i).E.reach ((l i).p*65536)/\(l' i).t=(l i).D.reach (((l i).p+av r)*65536))/\Lf (c i).1 (c i).2.1 (c i).2.2 now (l i) p.len/\1<=p.len/\(0<=av r/\av r<=16384)/\(l' i).e=(if 0<av r then (l i).e else (l' i).e):=by
  rintro i hi rfl;obtain⟨hc,F⟩:=H.lfs i hi;have Lc:=H.qs hi p (by rw[RK];simp);have Mz:=gI (q:=r) (N:=Lm) (λz hz=>H.qs hi z (by rw[RK];simp[hz])) ρa;obtain⟨e1,e2,e3,e4,e5⟩:=gf (l:=l i) (h:=av r) F.rng ρa;have lk:l' i=(l i).headed (av r):=by rw[hl i hi];exact ZP rfl
  rw[<- lk] at e1 e2 e3 e4 e5;rw[RK] at F;refine⟨hc,e1,e2,e3,e4,e5,F,Lc.1,by omega,?_⟩;split
  ·rename_i g;rw[(e5 g).1,(F.hs (by show 0<p.len;omega)).2.1]
  ·rfl
 have hD:DS T Lm R c now (now+T*p.len) l' q' (ev++[e])->DS T Lm R c now (now+T*p.len) l' q' (ev++[e]):=id;have lfs:∀i ∈ R,cV (c i).1 (c i).2.1 (c i).2.2/\Lf (c i).1 (c i).2.1 (c i).2.2 now (l' i) (av (q' i)):=λi hi=>by
  by_cases g:i=k
  ·obtain⟨hc,e1,e2,e3,e4,e5,F,Lc,Mz,_⟩:=key i hi g;rw[hq,ZP g];refine⟨hc,by rw[e4];exact F.rng,by omega,λg=>?_,λg=>?_⟩
   ·rw[e2,e3];exact F.lk (e1 ▸ g)
   ·have:=e5 g;rw[e1,e4,e2,e3];exact⟨(F.hs ρa).1,this.1,this.2⟩
  ·rw[hl i hi,hq,ZI g,ZI g];exact H.lfs i hi
 refine⟨lfs,λi hi=>?_,λdl hd=>?_,λi hi=>jw (H.hist i hi) (λg=>?_),ld H.len (λg=>by rw[he.1] at g;cases g),pj H.tm h0.1 he.2.2.1⟩
 ·by_cases g:i=k
  ·obtain⟨hc,e1,e2,e3,e4,e5,F,Lc,Mz,_⟩:=key i hi g;subst g;rw[hq,ZP rfl];exact ηU
  ·rw[hl i hi,hq,ZI g,ZI g];exact(H.gh i hi).other τW
 ·refine IB.reset now lfs ⟨h0.1,ZJ _⟩ ⟨ZJ _,by omega⟩ hd.2 (λi hi hh=>?_) ρa;by_cases g:i=k
  ·obtain⟨hc,e1,e2,e3,e4,e5,F,Lc,Mz,e6⟩:=key i hi g;simp only[hq,ZP g] at hh;rw[e6,ZP hh];exact Ug i hi (by rw[g,RK];simp)
  ·simp only[hq,ZI g] at hh;rw[hl i hi,ZI g];exact Ug i hi (λe=>by rw[e] at hh;exact az hh (by simp[av]))
 ·obtain⟨_,rfl⟩:=dF.1 g;have hek:=he.2.1;rw[hek] at hi ⊢;obtain⟨hc,e1,e2,e3,e4,e5,F,Lc,Mz,e6⟩:=key k hi rfl;have G:=H.gh k hi;rw[RK] at G;refine G.good hc (by rw[show av (p::r)=p.len from rfl];exact F) Lc (λz hz hi=>by have:=H.len z hz hi;omega) ?_;have h1:=F.et hc ρa;have h2:=Ug k hi (by rw[RK];simp);rw[he.2.2.2.2];omega
end
end Go.Proofs.YtfdlemkplejdnaaGreat
