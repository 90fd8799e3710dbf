/- WholeBehind, part 30. Conditions: none. -/
import Derived.Test.YtfdlemkplejdnaaGreatA25
import Derived.Test.YtfdlemkplejdnaaGreatA27
import Derived.Test.YtfdlemkplejdnaaGreatA28
namespace Go.Proofs.YtfdlemkplejdnaaGreat
open Go.RowKit Go.Sort
open Value renaming int->ι,pointer->ψ,slice->ζ,tuple->χ,agg->φ,map->μ,bool->β
open IntKind renaming u64->υ,i64->ε,u16->ω
open Ending renaming returned->ϰ
open Go.Proofs.Tryz renaming prog->Ψ,underlying3->Θ,underlying147->Δ,underlying152->Γ,underlying202->Φ,underlying39->Ξ,underlying207->Ω
open Go renaming World->ϖ,Value->ϗ
set_option linter.unusedVariables false
set_option linter.unusedSimpArgs false
set_option maxHeartbeats 8000000
set_option maxRecDepth 100000
theorem AQ (base:Nat)(v:ϗ)(xs:List Int)(p:Int->Bool)(g:Nat)(rv:ϗ)(w:ϖ)(H:HI w base v xs)(hx:xs.length<=1000000)(eg:∀args w,(callFunc g args).run Ψ w=.ok (.enter g args) w)
  (hp:∀x ∈ xs,∀v,Below w w v->Calls Ψ g #[rv,ι ε x] v λe v'=>e=ϰ (β (p x))/\Below v v v'):
  CB 113 #[v,.func (.func g) #[rv] #[]] w (ι ε (ii p xs 0)):=by
 obtain⟨oa,oc,rfl⟩:=H.slice;obtain⟨n,hn⟩:=Nq xs.length;rw[hn] at H ⊢;unfold CB;go_in;go_wp2_with fail;go_loopw [8] (λk wr=>∃(a b:List Int),k=ι ε (a.length:Nat)/\xs=a++b/\ii p xs 0=ii p b a.length/\HI wr base (ζ oa n oc) xs/\KO (λ_=>False) w wr) (λk _=>n - (intOf k).toNat);case atStart=>exact⟨[],xs,rfl,rfl,rfl,H,KO.refl _ _⟩
 case round=>
  obtain⟨a,b,rfl,IF,hi,H0,IB⟩:=hrel;have IK:a.length+b.length=n:=ρy;obtain⟨q,hq⟩:=Nq a.length;rw[hq] at IK hi ⊢;cases b with
  | nil=>exact ξD
  | cons x r=>exact ξS
theorem sP (base:Nat)(v:ϗ)(xs:List Int)(p:Int->Bool)(g:Nat)(rv:ϗ)(w:ϖ)(H:HI w base v xs)(hx:xs.length<=1000000)(eg:∀args w,(callFunc g args).run Ψ w=.ok (.enter g args) w)
  (hp:∀x ∈ xs,∀v,Below w w v->Calls Ψ g #[rv,ι ε x] v λe v'=>e=ϰ (β (p x))/\Below v v v'):
  CB 78 #[v,.func (.func g) #[rv] #[]] w (β (xs.any p)):=by
 rw[<- jo p xs 0];unfold CB;go_in;go_wp2_with fail;refine(AQ base v xs p g rv w H hx eg hp).mono ?_;rintro e v ⟨rfl,hb⟩;go_wp2;go_ret;exact⟨rfl,hb⟩
theorem nZ {L2:List CD} {i:Int}:∀{a1:List Int},(∀y ∈ a1,∃c,fc L2 y=some c)->fc (a1.map (di L2)) i=if i ∈ a1 then fc L2 i else none
 | [],_=>by simp[fc]
 | y::r,h=>by
  obtain⟨c,hc⟩:=h y ρp;have e:di L2 y=c:=by unfold di;rw[hc];rfl
  have My:c.id=y:=(aM hc).2;rw[gY,e];show (if i=c.id then some c else fc (r.map (di L2)) i)=_;rw[My,nZ (λz hz=>h z (by simp[hz]))];by_cases e2:i=y
  ·rw[ZP e2,e2,hc];simp
  ·rw[ZI e2];simp[e2]
theorem bO.add {o:aT} {w:ϖ} {L L':List CD} {e:Int->EN} {LB LB':List (Int × ϗ)} {x:Int} {c:CD} {b:Nat} {qv:ϗ} (h:bO o w L e LB)(hL:∀i,fc L' i=if i=x then some c else fc L i)(Zx:∀i,lk i LB'=if i=x then some (ψ b) else lk i LB)(hc:(e x).c=c)(hb:gM o w x b qv (e x)):bO o w L' e LB':=by
 obtain⟨P,V,hPV⟩:=h;refine⟨λi=>if i=x then b else P i,λi=>if i=x then qv else V i,λi=>?_⟩;have:=hPV i;rw[hL i,Zx i];by_cases e:i=x
 ·subst e;simp only[ZP];exact⟨trivial,hc,λ_=>hb⟩
 ·simp only[ZI e];exact this
theorem dA.add {o:aT} {w:ϖ} {L L':List CD} {kd:Int->TM} {LM LM':List (Int × ϗ)} {x:Int} {c:CD} (h:dA o w L kd LM)(hL:∀i,fc L' i=if i=x then some c else fc L i)(hx:x≠0)(hM:∀p,p≠x->lk p LM'=lk p LM)(hb:c.lf=false->∃t fp,lk x LM'=some (ψ (some ⟨t,0,none⟩))/\aQ 211 w t (kd x) fp/\∀y,fp y->o y=.kd x):dA o w L' kd LM':=by
 obtain⟨P,hP⟩:=h;rcases hl:c.lf with _|_
 ·obtain⟨t,fp,h1,h2,h3⟩:=hb hl;refine⟨λp=>if p=x then t else P p,λp hp=>?_⟩;by_cases e:p=x
  ·subst e;simp only[ZP];exact⟨h1,λ_=>⟨fp,h2,h3⟩⟩
  ·simp only[ZI e];rw[hM p e];exact hP p (by unfold bV at hp ⊢;rw[hL p,ZI e] at hp;exact hp)
 ·refine⟨P,λp hp=>?_⟩;by_cases e:p=x
  ·subst e;exfalso;unfold bV at hp;rw[hL p,ZP rfl] at hp;simp[hx,hl] at hp
  ·rw[hM p e];exact hP p (by unfold bV at hp ⊢;rw[hL p,ZI e] at hp;exact hp)
theorem bO.ext {o:aT} {w:ϖ} {L L':List CD} {e:Int->EN} {LB:List (Int × ϗ)} (h:bO o w L e LB)(hL:∀i,fc L' i=fc L i):bO o w L' e LB:=by obtain⟨P,V,hPV⟩:=h;exact⟨P,V,λi=>by rw[hL i];exact hPV i⟩
theorem dA.ext {o:aT} {w:ϖ} {L L':List CD} {kd:Int->TM} {LM:List (Int × ϗ)} (h:dA o w L kd LM)(hL:∀i,fc L' i=fc L i):dA o w L' kd LM:=by obtain⟨P,hP⟩:=h;exact⟨P,λp hp=>hP p (by unfold bV at hp ⊢;rw[hL p] at hp;exact hp)⟩
theorem zI (c:CD)(w:ϖ)(hp:c.lf=true->(1<=c.pk/\c.pk<=64)/\(1<=c.by_/\c.by_<=1048576)):Calls Ψ 83 #[CD.v c] w λe w'=>∃(qv:ϗ)(fp:Nat->Prop),e=ϰ (ψ (some ⟨w+1,0,none⟩))/\w.heap.size+1<w'/\(∀x:Nat,fp x->w+2<=x/\x<w')/\(∀o:aT,o (w+1)=.en c.id->(∀x,fp x->o x=.qu c.id)->gM o w' c.id (w+1) qv (dT c))/\Below w w w':=by
 have ok:(dT c).ok:=by unfold EN.ok dT GY CH.zero LF.ok CH.ok RN.ok LN.ok ai;simp
 rcases hl:c.lf with _|_
 ·refine(wt c w hl).mono ?_;rintro e w' ⟨rfl,X,k⟩;exact⟨_,λ_=>False,rfl,X.size,λ_ h=>h.elim,λo h1 h2=>⟨X,h1,by unfold dQ;rw[ZI (by show ¬c.lf=true;rw[hl];simp)],ok⟩,k⟩
 ·obtain⟨g1,g2⟩:=hp hl;refine(wu c w hl g1 g2).mono ?_;rintro e w' ⟨rfl,⟨Q,fp,X,HQ,hf⟩,k⟩;exact⟨_,fp,rfl,X.size,λx hx=>⟨hf x hx,by obtain⟨R,S,f,ps,k0,k1,k2,k3,k4,k5,_,_,_,_,_,_,_,_,h9⟩:=HQ;exact h9 x hx⟩,λo h1 h2=>⟨X,h1,by unfold dQ;rw[ZP (show (dT c).c.lf=true from hl)];exact⟨Q,fp,rfl,HQ,h2⟩,ok⟩,k⟩
end Go.Proofs.YtfdlemkplejdnaaGreat
