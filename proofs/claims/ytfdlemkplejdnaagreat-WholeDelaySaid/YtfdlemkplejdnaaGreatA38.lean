/- WholeDelay, part 38. Conditions: none. -/
import Derived.Test.YtfdlemkplejdnaaGreatA37
namespace Go.Proofs.YtfdlemkplejdnaaGreat
open Go.RowKit Go.Sort
open Value renaming int->ι,pointer->ψ,slice->ζ,tuple->χ,agg->φ,map->μ,bool->β
open IntKind renaming u64->υ,i64->ε,u16->ω
open Ending renaming returned->ϰ
open Go.Proofs.Tryz renaming prog->Ψ,underlying3->Θ,underlying147->Δ,underlying152->Γ,underlying202->Φ,underlying39->Ξ,underlying207->Ω
open Go renaming World->ϖ,Value->ϗ
set_option linter.unusedVariables false
set_option linter.unusedSimpArgs false
set_option maxHeartbeats 8000000
set_option maxRecDepth 100000
abbrev vX (ch:List (Int × CD)):List CD:=ch.foldl (λL c=>eC c.1 c.2 L) []
theorem qe:∀(ch:List (Int × CD))(L:List CD),(ch.foldl (λL c=>eC c.1 c.2 L) L).length<=L.length+ch.length
 | [],L=>ZR _
 | c::r,L=>by have h1:=qe r (eC c.1 c.2 L);have h2:=qw c.1 c.2 L;simp only[List.foldl_cons,uo];omega
theorem IA (T Lm:Int)(hT:1<=T/\T<=65536)(Sp:1<=Lm/\Lm<=16384)(x0:OI)(r:List OI)(M:List CD)(v:ϗ)(B:Nat)(w:ϖ)(G:dv w B v (x0::r))(hk:x0.k=1)(hr:∀x ∈ r,x.k≠1/\x.fine)(JS:(x0::r).length<=1000)(KR:∀c ∈ x0.ch,CN c.2)(hS:dw x0.ch [] M)(h32:x0.ch.length<=32)(hF:xc T (M.filter SS.real)):Calls Ψ 9 #[φ #[ι ε T,ι ε Lm,v]] w λe w'=>∃rs ev y,e=ϰ (χ #[φ #[rs,ev],Kz])/\xe T Lm (vX x0.ch) M x0 r y/\cu w' w ev y.ev/\(∃ra rn rc,rs=ζ ra rn rc)/\Below w w w':=by
 obtain⟨Kh,NN,R⟩:=gE.nil.steps gD.nil ρa KR hS;rw[Nat.zero_add] at R;have PE:(vX x0.ch).length<=64:=by have:=qe x0.ch [];simp only[List.length_nil,Nat.zero_add] at this;exact ZK this ρa
 obtain⟨K,C,W⟩:=NN.lok R ρa PE;have F:mZ w B T x0 (vX x0.ch) (λ_=>True):=by refine⟨hk,by omega,λc hc hl=>(WC.facts (W c hc).1).2.2.2.2.2.2.2.2.1 hl,K.nz,λcv QU Tb Mb w1 hb ht=>?_⟩;have UZ:aS 15 py w1 B cv x0.ch:=QU.belowK hb (by obtain⟨_,_,_,_,h,_⟩:=QU;exact h);refine(BZ xI Tb Mb [] T cv x0.ch B w1 ht hT ρp UZ (by obtain⟨_,_,_,_,h,_⟩:=UZ;exact h) Kh (λc hc=>KR c hc) ρa).mono ?_;rintro e w2 ⟨u,i,n,rfl,h1,h2⟩;exact⟨u,i,n,rfl,trivial,h1,h2⟩
 have Kf:∀y0,mP T Lm (vX x0.ch) (λ_=>True) y0->y0.Ok:=λy0 h0=>ηK
 refine(IT T Lm hT Sp x0 r (vX x0.ch) (λ_=>True) v B w G F Kf JS hr).mono ?_;rintro e w' ⟨rs,ev,y,rfl,h1,h2,h3⟩;exact⟨rs,ev,y,rfl,Ee NN R ρa PE hF hT Sp hk h1,h2,h3⟩
def ul:Prop:=∀u:ϖ,CB 8 #[] u fK
theorem af.le_cap {α:Type} {e:TypeId} {n:Nat} {enc:α->List ϗ} {w:ϖ} {base:Nat} {v:ϗ} {l:List α} (h:af e n enc w base v l):∀a m JN,v=ζ a m JN->l.length<=JN:=by
 rintro a m JN rfl;obtain⟨_,hh⟩:=h;rcases hh with ⟨h1,h2⟩|⟨g',Ps,cur,hv,_,_,hc,_⟩
 ·omega
 ·obtain⟨_,_,rfl⟩:=ZV hv;exact hc
theorem dw.len {ch:List (Int × CD)} {M:List CD} (h:dw ch [] M)(h32:ch.length<=32):M.length<=1000:=by
 have key:∀(ch:List (Int × CD)) (L M:List CD),dw ch L M->M.length<=L.length+ch.length:=by
  intro ch
  induction ch with
  | nil=>intro L M h;cases h;exact ZR _
  | cons c r ih=>
   rintro L M ⟨K,h1,h2⟩;have:=ih K M h2;have h3:K.length<=L.length+1:=by
    rcases h1 with ⟨_,_,rfl⟩|⟨_,_,_,rfl⟩|⟨_,_,rfl⟩
    ·exact gm c.2 L false
    ·exact ZK (ZH _ _) ρa
    ·exact gm c.2 L false
   simp only[uo];omega
 have:=key ch [] M h;simp at this;omega
theorem xn (g o d:Nat):({block:=g,off:=o,spot:=none}:Addr).add d=⟨g,o+d,none⟩:=by
 by_cases h:d=0
 ·subst h;rfl
 ·unfold Addr.add;rw[ZI h]
theorem aS.nilc {α:Type} {n:Nat} {enc:α->List ϗ} {w:ϖ} {B m JN:Nat} {a:Option Addr} {L:List α} (h:aS n enc w B (ζ a m JN) L):(a=none/\m=0/\JN=0)\/∃ad,a=Option.some ad:=by
 obtain⟨a',Ps,h1,_,_,h5,_⟩:=h;obtain⟨rfl,rfl,rfl⟩:=ZV h1;cases a with
 | none=>obtain⟨h6,h7⟩:=h5 rfl;exact .inl ⟨rfl,by rw[h7];rfl,h6⟩
 | some ad=>exact Or.inr ⟨ad,rfl⟩
theorem Fh (v:ϗ)(B:Nat)(w:ϖ)(G:iV w B v DP):Calls Ψ 9 #[φ #[Ko,ι ε 100,v]] w λe w'=>∃rs ev a b,e=ϰ (χ #[φ #[rs,ev],Kz])/\cu w' w ev [⟨2,true,false,0,0,1,pA⟩,⟨2,false,a,0,100,1,pA⟩,⟨3,true,false,0,0,1,pA⟩,⟨4,false,b,100,200,1,pA⟩]/\(∃ra rn rc,rs=ζ ra rn rc)/\Below w w w':=by
 have F:mZ w B 1 ⟨1,[(1,cA)],[],PK.zero,0⟩ [cA] (·=0):=by
  refine⟨rfl,by decide,λc hc hl=>?_,rfl,λcv QU Tb Mb w1 hb ht=>?_⟩
  ·rw[ZS] at hc;subst hc;decide
  have UZ:aS 15 py w1 B cv [(1,cA)]:=QU.belowK hb (by obtain⟨_,_,_,_,h,_⟩:=QU;exact h);refine(rL xI Tb Mb [] 1 cv [(1,cA)] B w1 ht ρf ρf UZ (by obtain⟨_,_,_,_,h,_⟩:=UZ;exact h) ⟨λ_=>⟨[],rfl,by decide⟩,trivial⟩ (λc hc=>by rw[ZS] at hc;subst hc;decide) ρf).mono ?_;rintro e w2 ⟨u,i,n,rfl,h1,h2,h3⟩;have hn:n=0:=by
   refine h2 ⟨rfl,λys hu=>?_,?_⟩ ρf
   ·have:ys=[]:=by
     cases ys with
     | nil=>rfl
     | cons y r=>obtain⟨c,hc,_⟩:=hu;cases hc
    subst this;refine⟨by decide,by decide,by decide,rfl,by decide⟩
   ·show aM _ [cA]=[];unfold aM;rw[show List.filter (λc:CD=>de (Go.Proofs.YtfdlemkplejdnaaGreat.kd c.r0 c.r1 c.r2)) [cA]=[] from rfl];simp
  exact⟨u,i,n,rfl,hn,h1,h3⟩
 have Kf:∀y0,mP 1 100 [cA] (·=0) y0->y0.Ok:=λy0 h0=>by
  rcases h0 with ⟨_,_,_,rfl⟩|⟨_,rfl⟩
  ·exact fU.ok mO.nil ρp kK.nil ρf ρf
  ·exact fU.ok mO.cA ρf kK.cA ρf ρf
 refine(GO 1 100 ρf ρf _ _ [cA] (·=0) v B w G F Kf ρf (λx hx=>?_)).mono ?_
 ·simp only[ZC,List.not_mem_nil,or_false] at hx;rcases hx with rfl|rfl|rfl|rfl<;>exact⟨by decide,⟨by decide,by decide⟩⟩
 rintro e w' ⟨rs,ev,z,y,rfl,h1,h2,h3⟩;obtain⟨a,b,he⟩:=n9 h1;rw[he] at h2;exact⟨rs,ev,a,b,rfl,h2,h3⟩
theorem ah.mid {w:ϖ} {g:Nat} {t:TypeId} {cells:Array ϗ} (H:ah w g cells t)(A cs C:List ϗ)(off:Nat)(ho:off=A.length)(e:cells=(A++(cs++C)).toArray):w.rangeAt g off cs:=λj u hj=>by
 have JM:j<cs.length:=by
  rcases Nat.lt_or_ge j cs.length with g|g
  ·exact g
  ·rw[List.getElem?_eq_none g] at hj;cases hj
 rw[H.cell,e,List.getElem?_toArray,ho,List.getElem?_append_right ρa,Nat.add_sub_cancel_left,List.getElem?_append_left JM];exact hj
theorem Dj (u v:ϖ)(z1:v.heap.size=u+1+1+1+1+1+1)(C1:ah v (u+1+1) #[ι ε 1,ι ε 1,ι ε 0,β true,ι υ 0,ι υ 0,ι υ 0,ι υ 65536,ι υ 0,ι υ 65536,ι υ 0,ι υ 0,ι υ 0,ι ε 3,ι ε 300] 86)(R1:ah v (u+1+1+1) #[ι ω 0,ι ω 0,ι ω 0,ι ω 0,ι ω 0,ι ω 0,ι ω 0,ι ω 0,ι ε 1] 88)(O1:ah v (u+1+1+1+1) #[ι ε 1,ζ (some ⟨u+1+1,0,none⟩) 1 1,ζ none 0 0,ι υ 0,ι ε 0,ι ω 0,ι ω 0,ι ω 0,ι ω 0,ι υ 0,ι ε 2,ζ none 0 0,ζ (some ⟨u+1+1+1,0,none⟩) 1 1,ι υ 0,ι ε 0,ι ω 0,ι ω 0,ι ω 0,ι ω 0,ι υ 0,ι ε 3,ζ none 0 0,ζ none 0 0,ι υ 7,ι ε 100,ι ω 0,ι ω 0,ι ω 0,ι ω 0,ι υ 0,ι ε 3,ζ none 0 0,ζ none 0 0,ι υ 7,ι ε 100,ι ω 0,ι ω 0,ι ω 0,ι ω 0,ι υ 0,ι ε 4,ζ none 0 0,ζ none 0 0,ι υ 0,ι ε 0,ι ω 0,ι ω 0,ι ω 0,ι ω 0,ι υ 150] 80):iV v v (ζ (some ⟨u+1+1+1+1,0,none⟩) 5 5) DP:=by
 have c1:aS 15 py v v (ζ (some ⟨u+1+1,0,none⟩) 1 1) [(1,cA)]:=af.rd (base:=0) (af.one (x:=((1,cA):Int × CD)) C1 rfl (Nat.zero_le _) rfl) (λ_=>rfl);have c0:aS 15 py v v (ζ none 0 0) []:=af.rd (e:=86) (base:=0) (af.nil v 0) (λ_=>rfl);have r1:aS 9 pB v v (ζ (some ⟨u+1+1+1,0,none⟩) 1 1) [rA]:=af.rd (base:=0) (af.one (x:=rA) R1 rfl (Nat.zero_le _) rfl) (λ_=>rfl);have r0:aS 9 pB v v (ζ none 0 0) []:=af.rd (e:=88) (base:=0) (af.nil v 0) (λ_=>rfl);refine⟨some ⟨u+1+1+1+1,0,none⟩,5,rfl,by decide,ZR _,λi x hi=>?_⟩
 match i,hi with
 | 0,hi=>cases hi;exact⟨_,0,_,rfl,by omega,⟨_,_,rfl,c1,r0⟩,ah.mid O1 ([]:List ϗ) _ [ι ε 2,ζ none 0 0,ζ (some ⟨u+1+1+1,0,none⟩) 1 1,ι υ 0,ι ε 0,ι ω 0,ι ω 0,ι ω 0,ι ω 0,ι υ 0,ι ε 3,ζ none 0 0,ζ none 0 0,ι υ 7,ι ε 100,ι ω 0,ι ω 0,ι ω 0,ι ω 0,ι υ 0,ι ε 3,ζ none 0 0,ζ none 0 0,ι υ 7,ι ε 100,ι ω 0,ι ω 0,ι ω 0,ι ω 0,ι υ 0,ι ε 4,ζ none 0 0,ζ none 0 0,ι υ 0,ι ε 0,ι ω 0,ι ω 0,ι ω 0,ι ω 0,ι υ 150] _ rfl rfl⟩
 | 1,hi=>cases hi;exact⟨_,0,_,rfl,by omega,⟨_,_,rfl,c0,r1⟩,ah.mid O1 [ι ε 1,ζ (some ⟨u+1+1,0,none⟩) 1 1,ζ none 0 0,ι υ 0,ι ε 0,ι ω 0,ι ω 0,ι ω 0,ι ω 0,ι υ 0] _ [ι ε 3,ζ none 0 0,ζ none 0 0,ι υ 7,ι ε 100,ι ω 0,ι ω 0,ι ω 0,ι ω 0,ι υ 0,ι ε 3,ζ none 0 0,ζ none 0 0,ι υ 7,ι ε 100,ι ω 0,ι ω 0,ι ω 0,ι ω 0,ι υ 0,ι ε 4,ζ none 0 0,ζ none 0 0,ι υ 0,ι ε 0,ι ω 0,ι ω 0,ι ω 0,ι ω 0,ι υ 150] _ rfl rfl⟩
 | 2,hi=>cases hi;exact⟨_,0,_,rfl,by omega,⟨_,_,rfl,c0,r0⟩,ah.mid O1 [ι ε 1,ζ (some ⟨u+1+1,0,none⟩) 1 1,ζ none 0 0,ι υ 0,ι ε 0,ι ω 0,ι ω 0,ι ω 0,ι ω 0,ι υ 0,ι ε 2,ζ none 0 0,ζ (some ⟨u+1+1+1,0,none⟩) 1 1,ι υ 0,ι ε 0,ι ω 0,ι ω 0,ι ω 0,ι ω 0,ι υ 0] _ [ι ε 3,ζ none 0 0,ζ none 0 0,ι υ 7,ι ε 100,ι ω 0,ι ω 0,ι ω 0,ι ω 0,ι υ 0,ι ε 4,ζ none 0 0,ζ none 0 0,ι υ 0,ι ε 0,ι ω 0,ι ω 0,ι ω 0,ι ω 0,ι υ 150] _ rfl rfl⟩
 | 3,hi=>cases hi;exact⟨_,0,_,rfl,by omega,⟨_,_,rfl,c0,r0⟩,ah.mid O1 [ι ε 1,ζ (some ⟨u+1+1,0,none⟩) 1 1,ζ none 0 0,ι υ 0,ι ε 0,ι ω 0,ι ω 0,ι ω 0,ι ω 0,ι υ 0,ι ε 2,ζ none 0 0,ζ (some ⟨u+1+1+1,0,none⟩) 1 1,ι υ 0,ι ε 0,ι ω 0,ι ω 0,ι ω 0,ι ω 0,ι υ 0,ι ε 3,ζ none 0 0,ζ none 0 0,ι υ 7,ι ε 100,ι ω 0,ι ω 0,ι ω 0,ι ω 0,ι υ 0] _ [ι ε 4,ζ none 0 0,ζ none 0 0,ι υ 0,ι ε 0,ι ω 0,ι ω 0,ι ω 0,ι ω 0,ι υ 150] _ rfl rfl⟩
 | 4,hi=>cases hi;exact⟨_,0,_,rfl,by omega,⟨_,_,rfl,c0,r0⟩,ah.mid O1 [ι ε 1,ζ (some ⟨u+1+1,0,none⟩) 1 1,ζ none 0 0,ι υ 0,ι ε 0,ι ω 0,ι ω 0,ι ω 0,ι ω 0,ι υ 0,ι ε 2,ζ none 0 0,ζ (some ⟨u+1+1+1,0,none⟩) 1 1,ι υ 0,ι ε 0,ι ω 0,ι ω 0,ι ω 0,ι ω 0,ι υ 0,ι ε 3,ζ none 0 0,ζ none 0 0,ι υ 7,ι ε 100,ι ω 0,ι ω 0,ι ω 0,ι ω 0,ι υ 0,ι ε 3,ζ none 0 0,ζ none 0 0,ι υ 7,ι ε 100,ι ω 0,ι ω 0,ι ω 0,ι ω 0,ι υ 0] _ [] _ rfl rfl⟩
 | n+5,hi=>cases hi
theorem Ax:ul:=by
 intro u;(try unfold CB);go_in;go_upto_region 4 with (fail);refine aW u (λv=>Below u u v) (λv=>Below u u v/\v.heap.size=u+1+1+1+1+1+1/\ah v (u+1+1) #[ι ε 1,ι ε 1,ι ε 0,β true,ι υ 0,ι υ 0,ι υ 0,ι υ 65536,ι υ 0,ι υ 65536,ι υ 0,ι υ 0,ι υ 0,ι ε 3,ι ε 300] 86/\ah v (u+1+1+1) #[ι ω 0,ι ω 0,ι ω 0,ι ω 0,ι ω 0,ι ω 0,ι ω 0,ι ω 0,ι ε 1] 88/\ah v (u+1+1+1+1) #[ι ε 1,ζ (some ⟨u+1+1,0,none⟩) 1 1,ζ none 0 0,ι υ 0,ι ε 0,ι ω 0,ι ω 0,ι ω 0,ι ω 0,ι υ 0,ι ε 2,ζ none 0 0,ζ (some ⟨u+1+1+1,0,none⟩) 1 1,ι υ 0,ι ε 0,ι ω 0,ι ω 0,ι ω 0,ι ω 0,ι υ 0,ι ε 3,ζ none 0 0,ζ none 0 0,ι υ 7,ι ε 100,ι ω 0,ι ω 0,ι ω 0,ι ω 0,ι υ 0,ι ε 3,ζ none 0 0,ζ none 0 0,ι υ 7,ι ε 100,ι ω 0,ι ω 0,ι ω 0,ι ω 0,ι υ 0,ι ε 4,ζ none 0 0,ζ none 0 0,ι υ 0,ι ε 0,ι ω 0,ι ω 0,ι ω 0,ι ω 0,ι υ 150] 80/\ah v (u+1+1+1+1+1) #[ι ε 1,ι ε 100,ζ (some ⟨u+1+1+1+1,0,none⟩) 5 5] 26) ρE (λkx=>⟨kx,by first|rfl|(simp;done),ρB,ρB,ρB,ρB⟩) ?_;rintro v1 ⟨k1,z1,C1,R1,O1,S1⟩;have G:=Dj u v1 z1 C1 R1 O1;have Rr:=S1.r;clear C1 R1 O1;replace z1:=ag z1;go_wp2_with fail;refine(Fh _ _ _ G).mono ?_;rintro e v2 ⟨rs,ev,a,b,rfl,E2,⟨ra,rn,rc,rfl⟩,k2⟩;have b2:Below u u v2:=k1.trans (k2.mono τm);have R2:=af.rd E2 (λ_=>rfl);obtain⟨oe,ce,rfl,-⟩:=R2.slice;obtain⟨g,off,rfl⟩:=R2.some ρp;have zg:g<v2:=by obtain⟨g',off',e1,h1,_⟩:=R2.at (i:=0) rfl;cases e1;exact h1
 have d0:=R2.cell (i:=0) rfl 1 rfl;have d1:=R2.cell (i:=1) rfl 4 rfl;have d2:=R2.cell (i:=3) rfl 3 rfl;have d3:=R2.cell (i:=3) rfl 4 rfl;clear R2 E2 G S1 k2;go_upto_region 5 with (fail);refine aW v2 (λv=>Below v2 v2 v) (λv=>Below v2 v2 v/\ah v v2 #[ζ ra rn rc,ζ (some ⟨g,off,none⟩) 4 ce] 35) ρE (λkx=>⟨kx,ρB⟩) ?_;rintro v3 ⟨k3,X3⟩;have b3:Below u u v3:=b2.trans (k3.mono b2.size);have d0:v3.cell? ⟨g,off+1,none⟩=some (β true):=(k3.cell (p:=⟨g,off+0*12+1,none⟩) zg).trans d0;have d1:v3.cell? ⟨g,off+12+4,none⟩=some (ι υ 100):=(k3.cell (p:=⟨g,off+1*12+4,none⟩) zg).trans d1;have d2:v3.cell? ⟨g,off+36+3,none⟩=some (ι υ 100):=(k3.cell (p:=⟨g,off+3*12+3,none⟩) zg).trans d2;have d3:v3.cell? ⟨g,off+36+4,none⟩=some (ι υ 200):=(k3.cell (p:=⟨g,off+3*12+4,none⟩) zg).trans d3;have Ss:=X3.r;clear b2 k1 z1;go_wp2;go_ret;exact⟨rfl,b3.trans ρE⟩
end Go.Proofs.YtfdlemkplejdnaaGreat
