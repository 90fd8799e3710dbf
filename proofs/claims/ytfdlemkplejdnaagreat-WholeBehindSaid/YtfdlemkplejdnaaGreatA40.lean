/- WholeBehind, part 40. Conditions: none. -/
import Derived.Test.YtfdlemkplejdnaaGreatA38
namespace Go.Proofs.YtfdlemkplejdnaaGreat
open Go.RowKit Go.Sort
open Value renaming int->ι,pointer->ψ,slice->ζ,tuple->χ,agg->φ,map->μ,bool->β
open IntKind renaming u64->υ,i64->ε,u16->ω
open Ending renaming returned->ϰ
open Go.Proofs.Tryz renaming prog->Ψ,underlying3->Θ,underlying147->Δ,underlying152->Γ,underlying202->Φ,underlying39->Ξ,underlying207->Ω
open Go renaming World->ϖ,Value->ϗ
set_option linter.unusedVariables false
set_option linter.unusedSimpArgs false
set_option maxHeartbeats 8000000
set_option maxRecDepth 100000
def tD:Prop:=∀u:ϖ,CB 8 #[] u fJ
theorem dq.len {ch:List (Int × CD)} {M:List CD} (h:dq ch [] M)(h32:ch.length<=32):M.length<=1000:=by
 have key:∀(ch:List (Int × CD)) (L M:List CD),dq ch L M->M.length<=L.length+ch.length:=by
  intro ch
  induction ch with
  | nil=>intro L M h;cases h;exact ZR _
  | cons c r ih=>
   rintro L M ⟨K,h1,h2⟩;have:=ih K M h2;have h3:K.length<=L.length+1:=by
    rcases h1 with ⟨_,_,rfl⟩|⟨_,_,_,rfl⟩|⟨_,_,rfl⟩
    ·exact gg c.2 L false
    ·exact ZK (ZH _ _) ρa
    ·exact gg c.2 L false
   simp only[mM];omega
 have:=key ch [] M h;simp at this;omega
theorem DS (v:ϗ)(B:Nat)(w:ϖ)(G:iP w B v CR):Calls Ψ 9 #[φ #[Ko,ι ε 100,v]] w λe w'=>∃rs ev a b,e=ϰ (χ #[φ #[rs,ev],Kz])/\cD w' w ev [⟨2,true,false,0,0,1,pA⟩,⟨2,false,a,0,100,1,pA⟩,⟨3,true,false,0,0,1,pA⟩,⟨4,false,b,100,200,1,pA⟩]/\(∃ra rn rc,rs=ζ ra rn rc)/\Below w w w':=by
 have F:mJ w B 1 ⟨1,[(1,cA)],[],PK.zero,0⟩ [cA] (·=0):=by
  refine⟨rfl,by decide,λc hc hl=>?_,rfl,λcv Ve Tb Mb w1 hb ht=>?_⟩
  ·rw[ZS] at hc;subst hc;decide
  have Wh:az 15 pg w1 B cv [(1,cA)]:=Ve.belowK hb (by obtain⟨_,_,_,_,h,_⟩:=Ve;exact h);refine(qP wH Tb Mb [] 1 cv [(1,cA)] B w1 ht ρf ρf Wh κz ⟨λ_=>⟨[],rfl,by decide⟩,trivial⟩ (λc hc=>by rw[ZS] at hc;subst hc;decide) ρf).mono ?_;rintro e w2 ⟨u,i,n,rfl,h1,h2,h3⟩;have hn:n=0:=by
   refine h2 ⟨rfl,λys hu=>?_,?_⟩ ρf
   ·have:ys=[]:=by
     cases ys with
     | nil=>rfl
     | cons y r=>obtain⟨c,hc,_⟩:=hu;cases hc
    subst this;refine⟨by decide,by decide,by decide,rfl,by decide⟩
   ·show aN _ [cA]=[];unfold aN;rw[show List.filter (λc:CD=>cW (Go.Proofs.YtfdlemkplejdnaaGreat.kd c.r0 c.r1 c.r2)) [cA]=[] from rfl];simp
  exact⟨u,i,n,rfl,hn,h1,h3⟩
 have Jo:∀y0,mz 1 100 [cA] (·=0) y0->y0.Ok:=λy0 h0=>by
  rcases h0 with ⟨_,_,_,rfl⟩|⟨_,rfl⟩
  ·exact fw.ok mC.nil ρp kt.nil ρf ρf
  ·exact fw.ok mC.cA ρf kt.cA ρf ρf
 refine(FO 1 100 ρf ρf _ _ [cA] (·=0) v B w G F Jo ρf (λx hx=>?_)).mono ?_
 ·simp only[ZC,List.not_mem_nil,or_false] at hx;rcases hx with rfl|rfl|rfl|rfl<;>exact⟨by decide,⟨by decide,by decide⟩⟩
 rintro e w' ⟨rs,ev,z,y,rfl,h1,h2,h3⟩;obtain⟨a,b,he⟩:=nP h1;rw[he] at h2;exact⟨rs,ev,a,b,rfl,h2,h3⟩
theorem ah.mid {w:ϖ} {g:Nat} {t:TypeId} {cells:Array ϗ} (H:ah w g cells t)(A cs C:List ϗ)(II:Nat)(ho:II=A.length)(e:cells=(A++(cs++C)).toArray):w.rangeAt g II cs:=λj u hj=>by
 have IJ:j<cs.length:=by
  rcases Nat.lt_or_ge j cs.length with g|g
  ·exact g
  ·rw[List.getElem?_eq_none g] at hj;cases hj
 rw[H.cell,e,List.getElem?_toArray,ho,List.getElem?_append_right ρa,Nat.add_sub_cancel_left,List.getElem?_append_left IJ];exact hj
theorem Ck (u v:ϖ)(z1:v.heap.size=u+1+1+1+1+1+1)(C1:ah v (u+1+1) #[ι ε 1,ι ε 1,ι ε 0,β true,ι υ 0,ι υ 0,ι υ 0,ι υ 65536,ι υ 0,ι υ 65536,ι υ 0,ι υ 0,ι υ 0,ι ε 3,ι ε 300] 86)(R1:ah v (u+1+1+1) #[ι ω 0,ι ω 0,ι ω 0,ι ω 0,ι ω 0,ι ω 0,ι ω 0,ι ω 0,ι ε 1] 88)(O1:ah v (u+1+1+1+1) #[ι ε 1,ζ (some ⟨u+1+1,0,none⟩) 1 1,ζ none 0 0,ι υ 0,ι ε 0,ι ω 0,ι ω 0,ι ω 0,ι ω 0,ι υ 0,ι ε 2,ζ none 0 0,ζ (some ⟨u+1+1+1,0,none⟩) 1 1,ι υ 0,ι ε 0,ι ω 0,ι ω 0,ι ω 0,ι ω 0,ι υ 0,ι ε 3,ζ none 0 0,ζ none 0 0,ι υ 7,ι ε 100,ι ω 0,ι ω 0,ι ω 0,ι ω 0,ι υ 0,ι ε 3,ζ none 0 0,ζ none 0 0,ι υ 7,ι ε 100,ι ω 0,ι ω 0,ι ω 0,ι ω 0,ι υ 0,ι ε 4,ζ none 0 0,ζ none 0 0,ι υ 0,ι ε 0,ι ω 0,ι ω 0,ι ω 0,ι ω 0,ι υ 150] 80):iP v v (ζ (some ⟨u+1+1+1+1,0,none⟩) 5 5) CR:=by
 have c1:az 15 pg v v (ζ (some ⟨u+1+1,0,none⟩) 1 1) [(1,cA)]:=ae.rd (base:=0) (ae.one (x:=((1,cA):Int × CD)) C1 rfl (Nat.zero_le _) rfl) (λ_=>rfl);have c0:az 15 pg v v (ζ none 0 0) []:=ae.rd (e:=86) (base:=0) (ae.nil v 0) (λ_=>rfl);have r1:az 9 pi v v (ζ (some ⟨u+1+1+1,0,none⟩) 1 1) [rA]:=ae.rd (base:=0) (ae.one (x:=rA) R1 rfl (Nat.zero_le _) rfl) (λ_=>rfl);have r0:az 9 pi v v (ζ none 0 0) []:=ae.rd (e:=88) (base:=0) (ae.nil v 0) (λ_=>rfl);refine⟨some ⟨u+1+1+1+1,0,none⟩,5,rfl,by decide,ZR _,λi x hi=>?_⟩
 match i,hi with
 | 0,hi=>cases hi;exact⟨_,0,_,rfl,by omega,⟨_,_,rfl,c1,r0⟩,ah.mid O1 ([]:List ϗ) _ [ι ε 2,ζ none 0 0,ζ (some ⟨u+1+1+1,0,none⟩) 1 1,ι υ 0,ι ε 0,ι ω 0,ι ω 0,ι ω 0,ι ω 0,ι υ 0,ι ε 3,ζ none 0 0,ζ none 0 0,ι υ 7,ι ε 100,ι ω 0,ι ω 0,ι ω 0,ι ω 0,ι υ 0,ι ε 3,ζ none 0 0,ζ none 0 0,ι υ 7,ι ε 100,ι ω 0,ι ω 0,ι ω 0,ι ω 0,ι υ 0,ι ε 4,ζ none 0 0,ζ none 0 0,ι υ 0,ι ε 0,ι ω 0,ι ω 0,ι ω 0,ι ω 0,ι υ 150] _ rfl rfl⟩
 | 1,hi=>cases hi;exact⟨_,0,_,rfl,by omega,⟨_,_,rfl,c0,r1⟩,ah.mid O1 [ι ε 1,ζ (some ⟨u+1+1,0,none⟩) 1 1,ζ none 0 0,ι υ 0,ι ε 0,ι ω 0,ι ω 0,ι ω 0,ι ω 0,ι υ 0] _ [ι ε 3,ζ none 0 0,ζ none 0 0,ι υ 7,ι ε 100,ι ω 0,ι ω 0,ι ω 0,ι ω 0,ι υ 0,ι ε 3,ζ none 0 0,ζ none 0 0,ι υ 7,ι ε 100,ι ω 0,ι ω 0,ι ω 0,ι ω 0,ι υ 0,ι ε 4,ζ none 0 0,ζ none 0 0,ι υ 0,ι ε 0,ι ω 0,ι ω 0,ι ω 0,ι ω 0,ι υ 150] _ rfl rfl⟩
 | 2,hi=>cases hi;exact⟨_,0,_,rfl,by omega,⟨_,_,rfl,c0,r0⟩,ah.mid O1 [ι ε 1,ζ (some ⟨u+1+1,0,none⟩) 1 1,ζ none 0 0,ι υ 0,ι ε 0,ι ω 0,ι ω 0,ι ω 0,ι ω 0,ι υ 0,ι ε 2,ζ none 0 0,ζ (some ⟨u+1+1+1,0,none⟩) 1 1,ι υ 0,ι ε 0,ι ω 0,ι ω 0,ι ω 0,ι ω 0,ι υ 0] _ [ι ε 3,ζ none 0 0,ζ none 0 0,ι υ 7,ι ε 100,ι ω 0,ι ω 0,ι ω 0,ι ω 0,ι υ 0,ι ε 4,ζ none 0 0,ζ none 0 0,ι υ 0,ι ε 0,ι ω 0,ι ω 0,ι ω 0,ι ω 0,ι υ 150] _ rfl rfl⟩
 | 3,hi=>cases hi;exact⟨_,0,_,rfl,by omega,⟨_,_,rfl,c0,r0⟩,ah.mid O1 [ι ε 1,ζ (some ⟨u+1+1,0,none⟩) 1 1,ζ none 0 0,ι υ 0,ι ε 0,ι ω 0,ι ω 0,ι ω 0,ι ω 0,ι υ 0,ι ε 2,ζ none 0 0,ζ (some ⟨u+1+1+1,0,none⟩) 1 1,ι υ 0,ι ε 0,ι ω 0,ι ω 0,ι ω 0,ι ω 0,ι υ 0,ι ε 3,ζ none 0 0,ζ none 0 0,ι υ 7,ι ε 100,ι ω 0,ι ω 0,ι ω 0,ι ω 0,ι υ 0] _ [ι ε 4,ζ none 0 0,ζ none 0 0,ι υ 0,ι ε 0,ι ω 0,ι ω 0,ι ω 0,ι ω 0,ι υ 150] _ rfl rfl⟩
 | 4,hi=>cases hi;exact⟨_,0,_,rfl,by omega,⟨_,_,rfl,c0,r0⟩,ah.mid O1 [ι ε 1,ζ (some ⟨u+1+1,0,none⟩) 1 1,ζ none 0 0,ι υ 0,ι ε 0,ι ω 0,ι ω 0,ι ω 0,ι ω 0,ι υ 0,ι ε 2,ζ none 0 0,ζ (some ⟨u+1+1+1,0,none⟩) 1 1,ι υ 0,ι ε 0,ι ω 0,ι ω 0,ι ω 0,ι ω 0,ι υ 0,ι ε 3,ζ none 0 0,ζ none 0 0,ι υ 7,ι ε 100,ι ω 0,ι ω 0,ι ω 0,ι ω 0,ι υ 0,ι ε 3,ζ none 0 0,ζ none 0 0,ι υ 7,ι ε 100,ι ω 0,ι ω 0,ι ω 0,ι ω 0,ι υ 0] _ [] _ rfl rfl⟩
 | n+5,hi=>cases hi
theorem yR:tD:=by
 intro u;(try unfold CB);go_in;go_upto_region 4 with (fail);refine aU u (λv=>Below u u v) (λv=>Below u u v/\v.heap.size=u+1+1+1+1+1+1/\ah v (u+1+1) #[ι ε 1,ι ε 1,ι ε 0,β true,ι υ 0,ι υ 0,ι υ 0,ι υ 65536,ι υ 0,ι υ 65536,ι υ 0,ι υ 0,ι υ 0,ι ε 3,ι ε 300] 86/\ah v (u+1+1+1) #[ι ω 0,ι ω 0,ι ω 0,ι ω 0,ι ω 0,ι ω 0,ι ω 0,ι ω 0,ι ε 1] 88/\ah v (u+1+1+1+1) #[ι ε 1,ζ (some ⟨u+1+1,0,none⟩) 1 1,ζ none 0 0,ι υ 0,ι ε 0,ι ω 0,ι ω 0,ι ω 0,ι ω 0,ι υ 0,ι ε 2,ζ none 0 0,ζ (some ⟨u+1+1+1,0,none⟩) 1 1,ι υ 0,ι ε 0,ι ω 0,ι ω 0,ι ω 0,ι ω 0,ι υ 0,ι ε 3,ζ none 0 0,ζ none 0 0,ι υ 7,ι ε 100,ι ω 0,ι ω 0,ι ω 0,ι ω 0,ι υ 0,ι ε 3,ζ none 0 0,ζ none 0 0,ι υ 7,ι ε 100,ι ω 0,ι ω 0,ι ω 0,ι ω 0,ι υ 0,ι ε 4,ζ none 0 0,ζ none 0 0,ι υ 0,ι ε 0,ι ω 0,ι ω 0,ι ω 0,ι ω 0,ι υ 150] 80/\ah v (u+1+1+1+1+1) #[ι ε 1,ι ε 100,ζ (some ⟨u+1+1+1+1,0,none⟩) 5 5] 26) ρE (λkx=>⟨kx,by first|rfl|(simp;done),ρB,ρB,ρB,ρB⟩) ?_;rintro v1 ⟨k1,z1,C1,R1,O1,S1⟩;have G:=Ck u v1 z1 C1 R1 O1;have Rr:=S1.r;clear C1 R1 O1;replace z1:=ag z1;go_wp2_with fail;refine(DS _ _ _ G).mono ?_;rintro e v2 ⟨rs,ev,a,b,rfl,E2,⟨ra,rn,rc,rfl⟩,k2⟩;have b2:Below u u v2:=k1.trans (k2.mono τm);have R2:=ae.rd E2 (λ_=>rfl);obtain⟨oe,ce,rfl,-⟩:=R2.slice;obtain⟨g,II,rfl⟩:=R2.some ρp;have zg:g<v2:=by obtain⟨g',off',e1,h1,_⟩:=R2.at (i:=0) rfl;cases e1;exact h1
 have d0:=R2.cell (i:=0) rfl 1 rfl;have d1:=R2.cell (i:=1) rfl 4 rfl;have d2:=R2.cell (i:=3) rfl 3 rfl;have d3:=R2.cell (i:=3) rfl 4 rfl;clear R2 E2 G S1 k2;go_upto_region 5 with (fail);refine aU v2 (λv=>Below v2 v2 v) (λv=>Below v2 v2 v/\ah v v2 #[ζ ra rn rc,ζ (some ⟨g,II,none⟩) 4 ce] 35) ρE (λkx=>⟨kx,ρB⟩) ?_;rintro v3 ⟨k3,X3⟩;have b3:Below u u v3:=b2.trans (k3.mono b2.size);have d0:v3.cell? ⟨g,II+1,none⟩=some (β true):=(k3.cell (p:=⟨g,II+0*12+1,none⟩) zg).trans d0;have d1:v3.cell? ⟨g,II+12+4,none⟩=some (ι υ 100):=(k3.cell (p:=⟨g,II+1*12+4,none⟩) zg).trans d1;have d2:v3.cell? ⟨g,II+36+3,none⟩=some (ι υ 100):=(k3.cell (p:=⟨g,II+3*12+3,none⟩) zg).trans d2;have d3:v3.cell? ⟨g,II+36+4,none⟩=some (ι υ 200):=(k3.cell (p:=⟨g,II+3*12+4,none⟩) zg).trans d3;have Ss:=X3.r;clear b2 k1 z1;go_wp2;go_ret;exact⟨rfl,b3.trans ρE⟩
end Go.Proofs.YtfdlemkplejdnaaGreat
