/- WholeBehind, part 12. Conditions: none. -/
import Derived.Test.YtfdlemkplejdnaaGreatA8
import Derived.Deep.SlicePairs
namespace Go.Proofs.YtfdlemkplejdnaaGreat
open Go.RowKit Go.Sort
open Value renaming int->ι,pointer->ψ,slice->ζ,tuple->χ,agg->φ,map->μ,bool->β
open IntKind renaming u64->υ,i64->ε,u16->ω
open Ending renaming returned->ϰ
open Go.Proofs.Tryz renaming prog->Ψ,underlying3->Θ,underlying147->Δ,underlying152->Γ,underlying202->Φ,underlying39->Ξ,underlying207->Ω
open Go renaming World->ϖ,Value->ϗ
set_option linter.unusedVariables false
set_option linter.unusedSimpArgs false
set_option maxHeartbeats 8000000
set_option maxRecDepth 100000
def UR (w:ϖ)(g N:Nat)(f:Nat->Int):Prop:=(∀i,0<=f i/\f i<=1048576)/\∃cs,ah w g cs 39/\N<=cs.size/\∀i,i<N->cs[i]?=some (ι υ (f i))
def US (w:ϖ)(g N:Nat):Prop:=∃f,UR w g N f
section
variable {w v:ϖ} {g N:Nat} {f:Nat->Int}
theorem UR.cell (h:UR w g N f) {i:Nat} (hi:i<N):w.cell? ⟨g,i,none⟩=some (ι υ (f i)):=by obtain⟨_,cs,h1,_,h3⟩:=h;exact(ah.cell h1 i).trans (h3 i hi)
theorem UR.frozen (h:UR w g N f)(i:Nat):w.frozen? ⟨g,i,none⟩=false:=by obtain⟨_,cs,h1,_⟩:=h;exact ah.frozen h1 i
theorem UR.size (h:UR w g N f):g<w:=by obtain⟨_,cs,h1,_⟩:=h;exact ah.size h1
theorem UR.below (h:UR w g N f)(k:Below w w v):UR v g N f:=by obtain⟨h0,cs,h1,h2⟩:=h;exact⟨h0,cs,ah.below h1 k (ah.size h1),h2⟩
instance {w g N f}:Mv (UR w g N f) w (λv'=>UR v' g N f):=⟨λk h=>UR.below h k⟩
theorem UR.ko {F:Nat->Prop} (h:UR w g N f)(k:KO F w v)(hF:¬F g):UR v g N f:=by obtain⟨h0,cs,h1,h2⟩:=h;exact⟨h0,cs,ah.ko h1 k hF,h2⟩
theorem UR.set (h:UR w g N f)(i:Nat) {x:Int} (hx:kR x):UR (w.setCell ⟨g,i,none⟩ x) g N (λj=>if j=i then x else f j):=by
 obtain⟨h0,cs,h1,h2,h3⟩:=h;refine⟨λj=>by simp only[];split;exact hx;exact h0 j,_,ah.set_same h1 rfl,by simpa using h2,λj hj=>?_⟩;rw[Array.getElem?_setIfInBounds];by_cases e:i=j
 ·subst e;rw[ZP rfl,ZP ρa];simp
 ·rw[ZI e,h3 j hj];simp[Ne.symm e]
theorem UR.us (h:UR w g N f):US w g N:=⟨f,h⟩
theorem US.below (h:US w g N)(k:Below w w v):US v g N:=by obtain⟨f,h⟩:=h;exact⟨f,h.below k⟩
instance {w g N}:Mv (US w g N) w (λv'=>US v' g N):=⟨λk h=>US.below h k⟩
theorem US.set (h:US w g N)(i:Nat) {x:Int} (hx:kR x):US (w.setCell ⟨g,i,none⟩ x) g N:=by obtain⟨f,h⟩:=h;exact⟨_,h.set i hx⟩
theorem US.setCells (h:US w g N) {x:Int} (hx:kR x):∀(m o:Nat),US (w.setCells g o (List.replicate m x)) g N:=by
 intro m
 induction m generalizing w with
 | zero=>intro o;exact h
 | succ m ih=>intro o;exact ih (h.set o hx) (o+1)
end
abbrev tu (g n IM:Nat):ϗ:=ζ (some ⟨g,0,none⟩) n IM
theorem GJ (x:Int)(w:ϖ):Calls Ψ 262 #[x] w λe w'=>e=ϰ dI/\w=w':=ξx
theorem bY (x y:Int)(w:ϖ):Calls Ψ 226 #[x,y] w λe w'=>e=ϰ (β (decide (x<y)))/\w=w':=by go_in;go_wp2_with (go_at_call 262;refine(GJ _ _).mono ?_;rintro e u ⟨rfl,rfl⟩);go_ret;exact⟨rfl,rfl⟩
theorem GH (g N n IM:Nat)(a b:Int)(w:ϖ)(U:US w g N)(hn:n<=N/\n<=49)(ha:0<=a/\a<=49)(hb:b<=n):Calls Ψ 278 #[tu g n IM,ι ε a,ι ε b] w λe w'=>e=ϰ (χ #[])/\US w' g N/\KO (λx=>x=g) w w':=by
 go_in;go_wp2_with fail;go_loopw [6] (λt wr=>∃i:Int,t=ι ε i/\a+1<=i/\i<=50/\US wr g N/\KO (λx=>x=g) w wr) (λt _=>(b - intOf t).toNat);case atStart=>exact⟨a+1,rfl,by omega,by omega,U,KO.refl _ _⟩
 case round=>
  obtain⟨i,rfl,hi,hi2,UZ,IB⟩:=hrel;by_cases c1:i<b
  rotate_left
  ·have d1:=ZF c1;exact ξJ
  have d1:=ZT c1;go_wp2_with fail;obtain⟨W,hW⟩:=Nq wr;subst hW;go_loopw [7] (λt wr=>∃j:Int,t=ι ε j/\a<=j/\j<=i/\US wr g N/\KO (λx=>x=g) w wr) (λt _=>(intOf t - a).toNat);case atStart=>exact⟨i,rfl,by omega,ZJ _,UZ,IB⟩
  case round=>
   obtain⟨j,rfl,hj,Un,U',F'⟩:=hrel;clear UZ IB;by_cases c2:a<j
   rotate_left
   ·have d2:=ZF c2;obtain⟨f,U0⟩:=U';have IB:=F';go_wp2_with fail;refine δk ?_;intro v1 F' U1 I' JN
    repeat (go_big_quiet_step ((first
      | (go_at_call 226;(with_reducible exact an (bY _ _ _))))))
    refine Zq (θ2 U1 F') ?_;rintro v2 ⟨U2,Iz⟩;replace I':=U2.size;clear JN U1;exact ηS
   have d2:=ZT c2;obtain⟨q,rfl⟩:∃q:Nat,j=(q:Int)+1:=⟨(j - 1).toNat,by omega⟩;obtain⟨f,U0⟩:=U';have b1:((q:Int)+1).toNat=q+1:=ρa;have IB:=F';have I':=(U0.cell (i:=q) ρa);have Jz:=(U0.cell (i:=q+1) ρa);have JD:=U0.size;go_wp2_with fail;refine Zw (θ2 IB U0) ?_;rintro v1 ⟨F',U1⟩;replace I':=(U1.cell (i:=q) ρa);replace Jz:=(U1.cell (i:=q+1) ρa);replace JD:=U1.size;have JN:=λd os=>((U1.below (ZW _ d os)).cell (i:=q) ρa);have Lg:=λd os=>((U1.below (ZW _ d os)).cell (i:=q+1) ρa);refine δm ?_;intro KT
   repeat (go_big_quiet_step ((first
     | (go_at_call 226;(with_reducible exact an (bY _ _ _))))))
   refine Zq (θ2 U1 F') ?_;rintro v2 ⟨U2,Iz⟩;replace I':=(U2.cell (i:=q) ρa);replace Jz:=(U2.cell (i:=q+1) ρa);replace JD:=U2.size;clear JN Lg KT U1;by_cases c3:f (q+1)<f q
   rotate_left
   ·have d3:=ZF c3;exact ηS
   have d3:=ZT c3;have QK:=U2.frozen q;have QL:=U2.frozen (q+1);have nq:q≠q+1:=ρa;go_wp2_with fail;go_region
   all_goals
    go_wp2;go_roundw;case rel=>exact⟨q,by go_num,by omega,by omega,τE,Iz.trans (G:=λx=>x=g) ρK (λ_ _ e=>e)⟩
    case measure=>exact ξe
theorem yr (g N n IM:Nat)(lo hi first:Nat)(w:ϖ)(U:US w g N)(hn:n<=N/\n<=49)(hl:lo<=49)(hh:first+hi<=n):Calls Ψ 290 #[tu g n IM,ι ε lo,ι ε hi,ι ε first] w λe w'=>e=ϰ (χ #[])/\US w' g N/\KO (λx=>x=g) w w':=by
 go_in;go_wp2_with fail;go_loopw [8] (λt wr=>∃r:Nat,t=ι ε r/\r<=49/\US wr g N/\KO (λx=>x=g) w wr) (λt _=>hi - (intOf t).toNat);case atStart=>exact⟨lo,rfl,hl,U,KO.refl _ _⟩
 case round=>
  obtain⟨r,rfl,hr,UZ,IB⟩:=hrel;by_cases c1:(hi:Int)<=2*(r:Int)+1
  ·have d1:=ZT c1;exact ξJ
  have d1:=ZF c1;obtain⟨f,U0⟩:=UZ;have b1:((first:Int)+(r:Int)).toNat=first+r:=ρa;have b2:((first:Int)+(2*(r:Int)+1)).toNat=first+(2*r+1):=ρa;have b3:((first:Int)+(2*(r:Int)+1)+1).toNat=first+(2*r+2):=ρa;have b4:((first:Int)+(2*(r:Int)+1+1)).toNat=first+(2*r+2):=ρa;by_cases c2:2*(r:Int)+1+1<(hi:Int)
  rotate_left
  ·have d2:=ZF c2;have I':=(U0.cell (i:=first+r) ρa);have Jz:=(U0.cell (i:=first+(2*r+1)) ρa);have JD:=U0.size;go_wp2_with fail;refine Zw (θ2 IB U0) ?_;rintro v1 ⟨F',U1⟩;replace I':=(U1.cell (i:=first+r) ρa);replace Jz:=(U1.cell (i:=first+(2*r+1)) ρa);replace JD:=U1.size;have JN:=λd os=>((U1.below (ZW _ d os)).cell (i:=first+r) ρa);have Lg:=λd os=>((U1.below (ZW _ d os)).cell (i:=first+(2*r+1)) ρa);refine δm ?_;intro KT
   repeat (go_big_quiet_step ((first
     | (go_at_call 226;(with_reducible exact an (bY _ _ _))))))
   refine Zq (θ2 U1 F') ?_;rintro v2 ⟨U2,Iz⟩;replace I':=(U2.cell (i:=first+r) ρa);replace Jz:=(U2.cell (i:=first+(2*r+1)) ρa);replace JD:=U2.size;clear JN Lg KT U1;exact ξb
  have d2:=ZT c2;have I':=(U0.cell (i:=first+(2*r+1)) ρa);have Jz:=(U0.cell (i:=first+(2*r+2)) ρa);have JD:=U0.size;go_wp2_with fail;refine Zw (θ2 IB U0) ?_;rintro v1 ⟨F',U1⟩;replace I':=(U1.cell (i:=first+(2*r+1)) ρa);replace Jz:=(U1.cell (i:=first+(2*r+2)) ρa);replace JD:=U1.size;have JN:=λd os=>((U1.below (ZW _ d os)).cell (i:=first+(2*r+1)) ρa);have Lg:=λd os=>((U1.below (ZW _ d os)).cell (i:=first+(2*r+2)) ρa);refine δm ?_;intro KT
  repeat (go_big_quiet_step ((first
    | (go_at_call 226;(with_reducible exact an (bY _ _ _))))))
  refine Zq (θ2 U1 F') ?_;rintro v2 ⟨U2,Iz⟩;replace I':=(U2.cell (i:=first+(2*r+1)) ρa);replace Jz:=(U2.cell (i:=first+(2*r+2)) ρa);replace JD:=U2.size;clear JN Lg KT U1;by_cases c3:f (first+(2*r+1))<f (first+(2*r+2))
  rotate_left
  ·have dc3:=ZF c3;have ec3:=dt (f (first+(2*r+2))<=f (first+(2*r+1)));have nc3:(!decide (f (first+(2*r+1))<f (first+(2*r+2))))=true:=by rw[dc3];rfl
   exact ξb
  have dc3:=ZT c3;have ec3:=df (f (first+(2*r+2))<=f (first+(2*r+1)));have nc3:(!decide (f (first+(2*r+1))<f (first+(2*r+2))))=false:=by rw[dc3];rfl
  replace I':=U2.cell (i:=first+r) ρa;replace Jz:=U2.cell (i:=first+(2*r+2)) ρa;go_wp2_with fail;refine Zw (θ2 Iz U2) ?_;rintro v3 ⟨ID,U3⟩;replace I':=(U3.cell (i:=first+r) ρa);replace Jz:=(U3.cell (i:=first+(2*r+2)) ρa);replace JD:=U3.size;have JN:=λd os=>((U3.below (ZW _ d os)).cell (i:=first+r) ρa);have Lg:=λd os=>((U3.below (ZW _ d os)).cell (i:=first+(2*r+2)) ρa);have KT:=λd os=>(U3.below (ZW _ d os)).size;refine Wq ?_
  repeat (go_big_quiet_step ((first
    | (go_at_call 226;(with_reducible exact an (bY _ _ _))))))
  refine Zq (θ2 U3 ID) ?_;rintro v4 ⟨U4,IC⟩;replace I':=(U4.cell (i:=first+r) ρa);replace Jz:=(U4.cell (i:=first+(2*r+2)) ρa);replace JD:=U4.size;clear JN Lg KT U3;by_cases c5:f (first+r)<f (first+(2*r+2))
  rotate_left
  ·have Zr:=ZF c5;have ec5:=dt (f (first+(2*r+2))<=f (first+r));have nc5:(!decide (f (first+r)<f (first+(2*r+2))))=true:=by rw[Zr];rfl
   go_wp2_with fail
   all_goals (first|(refine ax (Eq.trans (nc5).symm ?_:true=false) ρf;assumption)|skip)
   (first|go_end0|((try simp only[Exit.inBlock,Exit.then]);refine ZO (results_none rfl _ _ _) rfl ?_));exact⟨rfl,U4.us,IC⟩
  have Zr:=ZT c5;have ec5:=df (f (first+(2*r+2))<=f (first+r));have nc5:(!decide (f (first+r)<f (first+(2*r+2))))=false:=by rw[Zr];rfl
  have nq:first+r≠first+(2*r+2):=ρa;have QK:=U4.frozen (first+r);have QL:=U4.frozen (first+(2*r+2));go_wp2_with fail
  all_goals (first|(refine ax (Eq.trans (nc5).symm ?_:false=true) ρf;assumption)|skip)
  go_region
  all_goals
   go_wp2;go_roundw;case rel=>exact⟨2*r+2,by first|rfl|(congr 1;omega),by omega,σA,IC.trans (G:=λx=>x=g) ρK (λ_ _ e=>e)⟩
   case measure=>simp[intOf];omega
theorem Fs (g N n IM:Nat)(a b:Nat)(w:ϖ)(U:US w g N)(hn:n<=N/\n<=49)(IK:a+13<=b)(hb:b<=n):Calls Ψ 279 #[tu g n IM,ι ε a,ι ε b] w λe w'=>e=ϰ (χ #[])/\US w' g N/\KO (λx=>x=g) w w':=by
 obtain⟨h,hh⟩:∃h:Nat,(b:Int) - (a:Int)=h:=⟨b - a,by omega⟩;go_in;go_wp2_with fail;go_loopw [9] (λt wr=>∃i:Int,t=ι ε i/\-1<=i/\i<=49/\US wr g N/\KO (λx=>x=g) w wr) (λt _=>(intOf t+1).toNat);case atStart=>exact⟨_,rfl,by omega,by omega,U,KO.refl _ _⟩
 case round=>
  obtain⟨i,rfl,hi,hi2,UZ,IB⟩:=hrel;by_cases c1:0<=i
  rotate_left
  ·have d1:=ZF c1;go_wp2_with fail;go_loopw [10] (λt wr=>∃i:Int,t=ι ε i/\-1<=i/\i<h/\US wr g N/\KO (λx=>x=g) w wr) (λt _=>(intOf t+1).toNat);case atStart=>exact⟨_,rfl,by omega,by omega,UZ,IB⟩
   case round=>
    obtain⟨j,rfl,hj,Un,U',F'⟩:=hrel;by_cases c2:0<=j
    rotate_left
    ·have d2:=ZF c2;go_wp2_with fail;(first|go_end0|((try simp only[Exit.inBlock,Exit.then]);refine ZO (results_none rfl _ _ _) rfl ?_));exact⟨rfl,U',F'⟩
    have d2:=ZT c2;obtain⟨q,rfl⟩:∃q:Nat,j=(q:Int):=⟨j.toNat,by omega⟩;obtain⟨f,U0⟩:=U';have Jl:=F';have b1:((a:Int)+(q:Int)).toNat=a+q:=ρa;have I':=U0.cell (i:=a) ρa;have Jz:=U0.cell (i:=a+q) ρa;have JD:=U0.size;have QK:=U0.frozen a;have QL:=U0.frozen (a+q);have nq:q=0\/a≠a+q:=ρa;rcases nq with rfl|nq
    all_goals (go_wp2_with fail;go_region)
    all_goals
     go_wp2_with fail;refine av wr (λv=>KO (λx=>x=g) wr v/\US v g N) (λv=>KO (λx=>x=g) w v/\US v g N) ⟨ρK,ρ0⟩ (λkx=>⟨Jl.trans kx.1 (λ_ _ e=>e),kx.2⟩) ?_;rintro v1 ⟨k1,U'⟩
     first|refine(yr g N n IM 0 q a v1 U' hn ρa ρa).mono ?_|refine(yr g N n IM 0 0 a v1 U' hn ρa ρa).mono ?_
     rintro e v2 ⟨rfl,US2,k2⟩;go_wp2;go_roundw;case rel=>exact⟨_,rfl,by omega,by omega,US2.below ρE,(k1.trans k2 (λ_ _ e=>e)).step0 ρE⟩
     case measure=>exact ξe
  have d1:=ZT c1;obtain⟨q,rfl⟩:∃q:Nat,i=(q:Int):=⟨i.toNat,by omega⟩;go_wp2_with fail;refine(yr g N n IM q h a wr UZ hn ρa ρa).mono ?_;rintro e v2 ⟨rfl,US2,k2⟩;go_wp2;go_roundw;case rel=>exact⟨_,rfl,by omega,by omega,US2.below ρE,(IB.trans k2 (λ_ _ e=>e)).step0 ρE⟩
  case measure=>exact ξe
theorem DB (g N n IM:Nat)(a b S lo hi:Nat)(s:Int)(w:ϖ)(U:US w g N)(hn:n<=N/\n<=49)(B:ah w S #[ι ε s] 3)(gS:g≠S)(hs:0<=s/\s<=8)(hh:hi<=n)(ha:lo<=a/\a<hi)(hb:lo<=b/\b<hi):Calls Ψ 293 #[tu g n IM,ι ε a,ι ε b,S] w λe w'=>∃x y:Nat,e=ϰ (χ #[ι ε x,ι ε y])/\(lo<=x/\x<hi)/\(lo<=y/\y<hi)/\∃s':Int,(s<=s'/\s'<=s+1)/\ah w' S #[ι ε s'] 3/\KO (λz=>z=S) w w':=by
 obtain⟨f,U0⟩:=U;have S0:=B;have IB:KO (λz=>z=S) w w:=KO.refl _ _;have Rr:=S0.r;have I':=(U0.cell (i:=a) ρa);have Jz:=(U0.cell (i:=b) ρa);have JD:=U0.size;go_in;go_wp2_with fail;refine bS (θ3 IB U0 S0) ?_;clear Rr;rintro v1 ⟨F',U1,S1⟩ Rr;replace I':=(U1.cell (i:=a) ρa);replace Jz:=(U1.cell (i:=b) ρa);replace JD:=U1.size;have JN:=λd os=>((U1.below (ZW _ d os)).cell (i:=a) ρa);have Lg:=λd os=>((U1.below (ZW _ d os)).cell (i:=b) ρa);have KT:=λd os=>(U1.below (ZW _ d os)).size;have q:=af S1;refine Wq ?_
 repeat (go_big_quiet_step ((first
   | (go_at_call 226;(with_reducible exact an (bY _ _ _))))))
 refine bF (θ3 U1 S1 F') ?_;clear Rr;rintro v2 ⟨U2,S2,Iz⟩ Rr;replace I':=(U2.cell (i:=a) ρa);replace Jz:=(U2.cell (i:=b) ρa);replace JD:=U2.size;clear q JN Lg KT U1 S1;by_cases c1:f b<f a
 rotate_left
 ·have d1:=ZF c1;go_wp2;go_ret2;exact⟨a,b,rfl,ha,hb,s,⟨by omega,by omega⟩,S2.below ρE S2.size,Iz.step0 ρE⟩
 have d1:=ZT c1;go_wp2;go_ret2;exact⟨b,a,rfl,hb,ha,s+1,⟨by omega,by omega⟩,ρB,Iz.trans (G:=λz=>z=S) ρK (λ_ _ e=>e)⟩
theorem GI (g N n IM:Nat)(a b c S lo hi:Nat)(s:Int)(w:ϖ)(U:US w g N)(hn:n<=N/\n<=49)(B:ah w S #[ι ε s] 3)(gS:g≠S)(hs:0<=s/\s<=4)(hh:hi<=n)(ha:lo<=a/\a<hi)(hb:lo<=b/\b<hi)(hc:lo<=c/\c<hi):Calls Ψ 292 #[tu g n IM,ι ε a,ι ε b,ι ε c,S] w λe w'=>∃x:Nat,e=ϰ (ι ε x)/\(lo<=x/\x<hi)/\∃s':Int,(s<=s'/\s'<=s+3)/\ah w' S #[ι ε s'] 3/\KO (λz=>z=S) w w':=by
 go_in;have U9:=U;have B9:=B;go_wp2_with fail;refine av w (λv=>Below w w v) (λv=>Below w w v/\US v g N/\ah v S #[ι ε s] 3) ρE (λkx=>⟨kx,U9.below kx,B9.below kx B9.size⟩) ?_;rintro v0 ⟨m0,U0,B0⟩;refine(DB g N n IM a b S lo hi s v0 U0 hn B0 gS ρa hh ρa ρa).mono ?_;rintro e v2 ⟨x2,y2,rfl,NS,hy2,s2,Ja,B2,k2⟩;have U2:US v2 g N:=by obtain⟨f,h⟩:=U0;exact⟨f,h.ko k2 gS⟩
 go_wp2_with fail;refine av v2 (λv=>Below v2 v2 v) (λv=>Below v2 v2 v/\US v g N/\ah v S #[ι ε s2] 3) ρE (λkx=>⟨kx,US.below U2 kx,B2.below kx B2.size⟩) ?_;rintro v3 ⟨m3,U3,B3⟩;refine(DB g N n IM y2 c S lo hi s2 v3 U3 hn B3 gS ρa hh ρa ρa).mono ?_;rintro e v5 ⟨x5,y5,rfl,hx5,hy5,s5,WB,B5,k5⟩;have U5:US v5 g N:=by obtain⟨f,h⟩:=U3;exact⟨f,h.ko k5 gS⟩
 go_wp2_with fail;refine av v5 (λv=>Below v5 v5 v) (λv=>Below v5 v5 v/\US v g N/\ah v S #[ι ε s5] 3) ρE (λkx=>⟨kx,US.below U5 kx,B5.below kx B5.size⟩) ?_;rintro v6 ⟨m6,U6,B6⟩;refine(DB g N n IM x2 x5 S lo hi s5 v6 U6 hn B6 gS ρa hh ρa ρa).mono ?_;rintro e v8 ⟨x8,y8,rfl,hx8,hy8,s8,hs8,B8,k8⟩;have U8:US v8 g N:=by obtain⟨f,h⟩:=U6;exact⟨f,h.ko k8 gS⟩
 go_wp2;go_ret;exact⟨y8,rfl,hy8,s8,⟨by omega,by omega⟩,B8.below ρE B8.size,(((((KO.of_below m0).trans k2 (λ_ _ e=>e)).step0 m3).trans k5 (λ_ _ e=>e)).step0 m6 |>.trans k8 (λ_ _ e=>e)).step0 ρE⟩
theorem DD (g N n IM:Nat)(a b:Nat)(w:ϖ)(U:US w g N)(hn:n<=N/\n<=49)(IK:a+13<=b)(hb:b<=n):Calls Ψ 281 #[tu g n IM,ι ε a,ι ε b] w λe w'=>∃(j:Nat)(h:Int),e=ϰ (χ #[ι ε j,ι ε h])/\(a<=j/\j<b)/\(h=0\/h=1)/\Below w w w':=by
 obtain⟨l,hl⟩:∃l:Nat,(b:Int) - (a:Int)=l:=⟨b - a,by omega⟩;obtain⟨q,hq⟩:∃q:Nat,(l:Int) / 4=q:=⟨l / 4,by omega⟩;obtain⟨x1,JT⟩:∃x:Nat,(a:Int)+q=x:=⟨a+q,by omega⟩;obtain⟨x2,NS⟩:∃x:Nat,(a:Int)+q*2=x:=⟨a+q*2,by omega⟩;obtain⟨x3,hx3⟩:∃x:Nat,(a:Int)+q*3=x:=⟨a+q*3,by omega⟩;have d1:=dt (8<=(l:Int));have d2:=df (50<=(l:Int));have zU:=(by obtain⟨f,h⟩:=U;exact h.size:g<w);go_in;go_wp2_with fail;refine av w (λv=>Below w w v) (λv=>Below w w v/\US v g N/\ah v w #[Kz] 3) ρE (λkx=>⟨kx,US.below U kx,ρB⟩) ?_;rintro v1 ⟨k1,U1,B1⟩;have z1:=k1.size;have zB:=B1.size;obtain⟨S,hS⟩:=Nq w.heap.size;rw[hS] at B1 zB zU ⊢;have gS:g≠S:=ρa;refine(GI g N n IM x1 x2 x3 S a b 0 v1 U1 hn B1 gS ρa ρa ρa ρa ρa).mono ?_;rintro e v2 ⟨y,rfl,hy,s,hs,B2,k2⟩;have cB:=B2.cell;have fB:=B2.frozen;have zB2:=B2.size;have kk:Below w w v2:=k1.trans (k2.below ρa (λz hz e=>by omega));by_cases c0:s=0
 ·subst c0;go_wp2;go_ret2;exact⟨y,1,rfl,hy,.inr rfl,hS ▸ kk.trans ρE⟩
 have e0:(s==0)=false:=by simpa using c0
 have e12:(s==12)=false:=ρ7;go_wp2;go_ret2;exact⟨y,0,rfl,hy,.inl rfl,hS ▸ kk.trans ρE⟩
theorem DC (g N n IM:Nat)(a b p:Nat)(w:ϖ)(U:US w g N)(hn:n<=N/\n<=49)(hp:a<=p/\p<b)(hb:b<=n):Calls Ψ 284 #[tu g n IM,ι ε a,ι ε b,ι ε p] w λe w'=>∃m:Nat,e=ϰ (ι ε m)/\a<m/\m<=b/\US w' g N/\KO (λx=>x=g) w w':=by
 obtain⟨f0,U0⟩:=U;have I':=U0.cell (i:=a) ρa;have Jz:=U0.cell (i:=p) ρa;have JD:=U0.size;have QK:=U0.frozen a;have QL:=U0.frozen p;have nq:a=p\/a≠p:=ρa;go_in;rcases nq with nq|nq
 ·subst nq;go_wp2_with fail;go_region;go_upto_region 2 with fail;exact ξa
 ·go_wp2_with fail;go_region;go_upto_region 2 with fail;exact ξa
theorem Fx (g N n IM:Nat)(a b p:Nat)(w:ϖ)(U:US w g N)(hn:n<=N/\n<=49)(hp:a<=p/\p<b)(hb:b<=n):Calls Ψ 285 #[tu g n IM,ι ε a,ι ε b,ι ε p] w λe w'=>∃(m:Nat)(r:Bool),e=ϰ (χ #[ι ε m,β r])/\a<=m/\m<b/\US w' g N/\KO (λx=>x=g) w w':=by
 obtain⟨f0,U0⟩:=U;obtain⟨j0,hj0⟩:∃j:Nat,(b:Int) - 1=j:=⟨b - 1,by omega⟩;go_in;go_upto_region 1 with fail;have I':=U0.cell (i:=a) ρa;have Jz:=U0.cell (i:=p) ρa;have JD:=U0.size;have QK:=U0.frozen (a);have QL:=U0.frozen (p);have nq:a=p\/a≠p:=ρa;go_cut [] from 12 to 25 (λwx=>US wx g N/\KO (λx=>x=g) w wx);case first=>
  rcases nq with nq|nq
  ·subst nq;go_region
   all_goals
    go_wp2;go_meet;exact⟨ρ0,ρK⟩
  ·go_region
   all_goals
    go_wp2;go_meet;exact⟨ρ0,ρK⟩
 case rest=>
  obtain⟨⟨f,U1⟩,kW⟩:=hcut
  rename ϖ=>W
  clear I' Jz JD QK QL nq U0;go_upto_block 0 with fail;go_cut [10] from 30 to 45 (λt wx=>∃i1:Nat,t=ι ε i1/\(a+1<=i1/\i1<=b)/\UR wx g N f/\KO (λx=>x=g) W wx);case first=>
   go_wp2_with fail;go_loopw [10] (λt wr=>∃i1:Nat,t=ι ε i1/\(a+1<=i1/\i1<=b)/\UR wr g N f/\KO (λx=>x=g) W wr) (λt _=>(j0+1 - intOf t).toNat);case atStart=>exact⟨a+1,by first|rfl|(congr 1;omega)|go_num,⟨by omega,by omega⟩,U1,KO.refl _ _⟩
   case round=>
    obtain⟨i1,rfl,hv,U0,IB⟩:=hrel;by_cases cg:i1<=j0
    rotate_left
    ·have dg:=ZF cg;have I':=U0.size;go_wp2_with fail;refine δk ?_;clear I';intro v1 F' U1 I' JN
     repeat (go_big_quiet_step ((first
       | (go_at_call 226;(with_reducible exact an (bY _ _ _))))))
     refine Zq (θ2 U1 F') ?_;rintro v2 ⟨U2,Iz⟩;replace I':=U2.size;clear JN U1;go_wp2;go_meet;exact⟨i1,rfl,hv,U2,Iz⟩
    have dg:=ZT cg;have I':=(U0.cell (i:=i1) ρa);have Jz:=(U0.cell (i:=a) ρa);have JD:=U0.size;go_wp2_with fail;refine Zw (θ2 IB U0) ?_;rintro v1 ⟨F',U1⟩;replace I':=(U1.cell (i:=i1) ρa);replace Jz:=(U1.cell (i:=a) ρa);replace JD:=U1.size;have JN:=λd os=>((U1.below (ZW _ d os)).cell (i:=i1) ρa);refine δZ ?_;intro Lg KT
    repeat (go_big_quiet_step ((first
      | (go_at_call 226;(with_reducible exact an (bY _ _ _))))))
    refine Zq (θ2 U1 F') ?_;rintro v2 ⟨U2,Iz⟩;replace I':=(U2.cell (i:=i1) ρa);replace Jz:=(U2.cell (i:=a) ρa);replace JD:=U2.size;clear JN Lg KT U1;by_cases cc:f i1<f a
    rotate_left
    ·have NY:=ZF cc;have Sh:=dt (f a<=f i1);have MF:(!decide (f i1<f a))=true:=by rw[NY];rfl
     go_wp2_with fail
     all_goals (first|(refine ax (Eq.trans (MF).symm ?_:true=false) ρf;assumption)|skip)
     go_meet;exact⟨i1,rfl,hv,U2,Iz⟩
    have NY:=ZT cc;have Sh:=df (f a<=f i1);have MF:(!decide (f i1<f a))=false:=τ1;go_wp2_with fail
    all_goals (first|(refine ax (Eq.trans (MF).symm ?_:false=true) ρf;assumption)|skip)
    go_roundw;case rel=>exact⟨i1+1,by first|rfl|(congr 1;omega)|go_num,by omega,U2.below ρE,Iz.step0 ρE⟩
    case measure=>exact ξe
  case rest=>
   obtain⟨i1,rfl,hi1,U8,Vv⟩:=hcut;go_upto_block 2 with fail;go_cut [11] from 46 to 62 (λt wx=>∃j1:Nat,t=ι ε j1/\(a<=j1/\j1<b)/\UR wx g N f/\KO (λx=>x=g) W wx);case first=>
    go_wp2_with fail;go_loopw [11] (λt wr=>∃j1:Nat,t=ι ε j1/\(a<=j1/\j1<b)/\UR wr g N f/\KO (λx=>x=g) W wr) (λt _=>(intOf t).toNat);case atStart=>exact⟨j0,rfl,by omega,U8,Vv⟩
    case round=>
     obtain⟨j1,rfl,hv,U0,IB⟩:=hrel;by_cases cg:i1<=j1
     rotate_left
     ·have dg:=ZF cg;have I':=U0.size;go_wp2_with fail;refine δk ?_;clear I';intro v1 F' U1 I' JN
      repeat (go_big_quiet_step ((first
        | (go_at_call 226;(with_reducible exact an (bY _ _ _))))))
      refine Zq (θ2 U1 F') ?_;rintro v2 ⟨U2,Iz⟩;replace I':=U2.size;clear JN U1;go_wp2;go_meet;exact⟨j1,rfl,hv,U2,Iz⟩
     have dg:=ZT cg;have I':=(U0.cell (i:=j1) ρa);have Jz:=(U0.cell (i:=a) ρa);have JD:=U0.size;go_wp2_with fail;refine Zw (θ2 IB U0) ?_;rintro v1 ⟨F',U1⟩;replace I':=(U1.cell (i:=j1) ρa);replace Jz:=(U1.cell (i:=a) ρa);replace JD:=U1.size;have JN:=λd os=>((U1.below (ZW _ d os)).cell (i:=j1) ρa);refine δZ ?_;intro Lg KT
     repeat (go_big_quiet_step ((first
       | (go_at_call 226;(with_reducible exact an (bY _ _ _))))))
     refine Zq (θ2 U1 F') ?_;rintro v2 ⟨U2,Iz⟩;replace I':=(U2.cell (i:=j1) ρa);replace Jz:=(U2.cell (i:=a) ρa);replace JD:=U2.size;clear JN Lg KT U1;by_cases cc:f j1<f a
     rotate_left
     ·have NY:=ZF cc;have Sh:=dt (f a<=f j1);have MF:(!decide (f j1<f a))=true:=by rw[NY];rfl
      go_wp2_with fail
      all_goals (first|(refine ax (Eq.trans (MF).symm ?_:true=false) ρf;assumption)|skip)
      go_roundw;case rel=>exact⟨j1 - 1,by first|rfl|(congr 1;omega)|go_num,by omega,U2.below ρE,Iz.step0 ρE⟩
      case measure=>exact ξe
     have NY:=ZT cc;have Sh:=df (f a<=f j1);have MF:(!decide (f j1<f a))=false:=τ1;go_wp2_with fail
     all_goals (first|(refine ax (Eq.trans (MF).symm ?_:false=true) ρf;assumption)|skip)
     go_meet;exact⟨j1,rfl,hv,U2,Iz⟩
   case rest=>
    obtain⟨j1,rfl,hj1,U7,k77⟩:=hcut
    rename ϖ=>V
    clear U8 Vv;have kz:=kW.trans k77 (λ_ _ e=>e);by_cases cx:j1<i1
    ·have dx:=ZT cx;go_upto_region 8 with fail;have I':=U7.cell (i:=j1) ρa;have Jz:=U7.cell (i:=a) ρa;have JD:=U7.size;have QK:=U7.frozen (j1);have QL:=U7.frozen (a);have nq:j1=a\/j1≠a:=ρa;go_cut [] from 66 to 79 (λwx=>US wx g N/\KO (λx=>x=g) V wx);case first=>
      exact ξA
     case rest=>
      obtain⟨US6,k66⟩:=hcut;go_wp2;go_ret2;exact⟨j1,true,rfl,by omega,by omega,US6.below ρE,(kz.trans k66 (λ_ _ e=>e)).step0 ρE⟩
    have dx:=ZF cx;go_upto_region 10 with fail;have I':=U7.cell (i:=i1) ρa;have Jz:=U7.cell (i:=j1) ρa;have JD:=U7.size;have QK:=U7.frozen (i1);have QL:=U7.frozen (j1);have nq:i1=j1\/i1≠j1:=ρa;go_cut [] from 81 to 94 (λwx=>US wx g N/\KO (λx=>x=g) V wx);case first=>
     exact ξA
    case rest=>
     obtain⟨US6,k66⟩:=hcut;clear I' Jz JD QK QL nq;have k9:=kz.trans k66 (λ_ _ e=>e);clear kz k66 k77 U7
     rename ϖ=>V2
     go_wp2_with fail;go_loopw [10,11] (λt u wr=>∃i j:Nat,t=ι ε i/\u=ι ε j/\(a+1<=i/\i<=b)/\(a<=j/\j<b)/\US wr g N/\KO (λx=>x=g) w wr) (λt u _=>(intOf u+2 - intOf t).toNat);case atStart=>exact⟨i1+1,j1 - 1,by first|rfl|(congr 1;omega)|go_num,by first|rfl|(congr 1;omega)|go_num,⟨by omega,by omega⟩,⟨by omega,by omega⟩,US6,k9⟩
     case round=>
      obtain⟨i,j,rfl,rfl,hi,hj,⟨f,U9⟩,k99⟩:=hrel;clear US6 k9 hi1 hj1;generalize wr=W at*;go_upto_block 6 with fail;go_cut [10] from 99 to 114 (λt wx=>∃i2:Nat,t=ι ε i2/\((a+1<=i2/\i2<=b)/\i<=i2)/\UR wx g N f/\KO (λx=>x=g) W wx);case first=>
       go_wp2_with fail;go_loopw [10] (λt wr=>∃i2:Nat,t=ι ε i2/\((a+1<=i2/\i2<=b)/\i<=i2)/\UR wr g N f/\KO (λx=>x=g) W wr) (λt _=>(j+1 - intOf t).toNat);case atStart=>exact⟨i,rfl,⟨hi,ZR _⟩,U9,KO.refl _ _⟩
       case round=>
        obtain⟨i2,rfl,hv,U0,IB⟩:=hrel;by_cases cg:i2<=j
        rotate_left
        ·have dg:=ZF cg;have I':=U0.size;go_wp2_with fail;refine δk ?_;clear I';intro v1 F' U1 I' JN
         repeat (go_big_quiet_step ((first
           | (go_at_call 226;(with_reducible exact an (bY _ _ _))))))
         refine Zq (θ2 U1 F') ?_;rintro v2 ⟨U2,Iz⟩;replace I':=U2.size;clear JN U1;go_wp2;go_meet;exact⟨i2,rfl,hv,U2,Iz⟩
        have dg:=ZT cg;have I':=(U0.cell (i:=i2) ρa);have Jz:=(U0.cell (i:=a) ρa);have JD:=U0.size;go_wp2_with fail;refine Zw (θ2 IB U0) ?_;rintro v1 ⟨F',U1⟩;replace I':=(U1.cell (i:=i2) ρa);replace Jz:=(U1.cell (i:=a) ρa);replace JD:=U1.size;have JN:=λd os=>((U1.below (ZW _ d os)).cell (i:=i2) ρa);refine δZ ?_;intro Lg KT
        repeat (go_big_quiet_step ((first
          | (go_at_call 226;(with_reducible exact an (bY _ _ _))))))
        refine Zq (θ2 U1 F') ?_;rintro v2 ⟨U2,Iz⟩;replace I':=(U2.cell (i:=i2) ρa);replace Jz:=(U2.cell (i:=a) ρa);replace JD:=U2.size;clear JN Lg KT U1;by_cases cc:f i2<f a
        rotate_left
        ·have NY:=ZF cc;have Sh:=dt (f a<=f i2);have MF:(!decide (f i2<f a))=true:=by rw[NY];rfl
         go_wp2_with fail
         all_goals (first|(refine ax (Eq.trans (MF).symm ?_:true=false) ρf;assumption)|skip)
         go_meet;exact⟨i2,rfl,hv,U2,Iz⟩
        have NY:=ZT cc;have Sh:=df (f a<=f i2);have MF:(!decide (f i2<f a))=false:=τ1;go_wp2_with fail
        all_goals (first|(refine ax (Eq.trans (MF).symm ?_:false=true) ρf;assumption)|skip)
        go_roundw;case rel=>exact⟨i2+1,by first|rfl|(congr 1;omega)|go_num,by omega,U2.below ρE,Iz.step0 ρE⟩
        case measure=>exact ξe
      case rest=>
       obtain⟨i2,rfl,hi2,U8,Vv⟩:=hcut;clear hi;go_upto_block 8 with fail;go_cut [11] from 115 to 131 (λt wx=>∃j2:Nat,t=ι ε j2/\((a<=j2/\j2<b)/\j2<=j)/\UR wx g N f/\KO (λx=>x=g) W wx);case first=>
        go_wp2_with fail;go_loopw [11] (λt wr=>∃j2:Nat,t=ι ε j2/\((a<=j2/\j2<b)/\j2<=j)/\UR wr g N f/\KO (λx=>x=g) W wr) (λt _=>(intOf t).toNat);case atStart=>exact⟨j,rfl,⟨hj,ZR _⟩,U8,Vv⟩
        case round=>
         obtain⟨j2,rfl,hv,U0,IB⟩:=hrel;by_cases cg:i2<=j2
         rotate_left
         ·have dg:=ZF cg;have I':=U0.size;go_wp2_with fail;refine δk ?_;clear I';intro v1 F' U1 I' JN
          repeat (go_big_quiet_step ((first
            | (go_at_call 226;(with_reducible exact an (bY _ _ _))))))
          refine Zq (θ2 U1 F') ?_;rintro v2 ⟨U2,Iz⟩;replace I':=U2.size;clear JN U1;go_wp2;go_meet;exact⟨j2,rfl,hv,U2,Iz⟩
         have dg:=ZT cg;have I':=(U0.cell (i:=j2) ρa);have Jz:=(U0.cell (i:=a) ρa);have JD:=U0.size;go_wp2_with fail;refine Zw (θ2 IB U0) ?_;rintro v1 ⟨F',U1⟩;replace I':=(U1.cell (i:=j2) ρa);replace Jz:=(U1.cell (i:=a) ρa);replace JD:=U1.size;have JN:=λd os=>((U1.below (ZW _ d os)).cell (i:=j2) ρa);refine δZ ?_;intro Lg KT
         repeat (go_big_quiet_step ((first
           | (go_at_call 226;(with_reducible exact an (bY _ _ _))))))
         refine Zq (θ2 U1 F') ?_;rintro v2 ⟨U2,Iz⟩;replace I':=(U2.cell (i:=j2) ρa);replace Jz:=(U2.cell (i:=a) ρa);replace JD:=U2.size;clear JN Lg KT U1;by_cases cc:f j2<f a
         rotate_left
         ·have NY:=ZF cc;have Sh:=dt (f a<=f j2);have MF:(!decide (f j2<f a))=true:=by rw[NY];rfl
          go_wp2_with fail
          all_goals (first|(refine ax (Eq.trans (MF).symm ?_:true=false) ρf;assumption)|skip)
          go_roundw;case rel=>exact⟨j2 - 1,by first|rfl|(congr 1;omega)|go_num,by omega,U2.below ρE,Iz.step0 ρE⟩
          case measure=>exact ξe
         have NY:=ZT cc;have Sh:=df (f a<=f j2);have MF:(!decide (f j2<f a))=false:=τ1;go_wp2_with fail
         all_goals (first|(refine ax (Eq.trans (MF).symm ?_:false=true) ρf;assumption)|skip)
         go_meet;exact⟨j2,rfl,hv,U2,Iz⟩
       case rest=>
        obtain⟨j2,rfl,Un,U7,k77⟩:=hcut
        rename ϖ=>wz
        clear hj U8 Vv;have kz:=k99.trans k77 (λ_ _ e=>e);by_cases cx:j2<i2
        ·have dx:=ZT cx;go_upto_region 21 with fail;have I':=U7.cell (i:=j2) ρa;have Jz:=U7.cell (i:=a) ρa;have JD:=U7.size;have QK:=U7.frozen (j2);have QL:=U7.frozen (a);have nq:j2=a\/j2≠a:=ρa;go_cut [] from 153 to 166 (λwx=>US wx g N/\KO (λx=>x=g) wz wx);case first=>
          exact ξA
         case rest=>
          obtain⟨US6,k66⟩:=hcut;go_wp2;go_ret2;exact⟨j2,false,rfl,by omega,by omega,US6.below ρE,(kz.trans k66 (λ_ _ e=>e)).step0 ρE⟩
        have dx:=ZF cx;have I':=U7.cell (i:=i2) ρa;have Jz:=U7.cell (i:=j2) ρa;have JD:=U7.size;have QK:=U7.frozen i2;have QL:=U7.frozen j2;have nz:i2=j2\/i2≠j2:=ρa;rcases nz with nz|nz
        ·subst nz;go_wp2_with fail;go_region
         all_goals
          go_wp2;go_roundw;case rel=>exact⟨i2+1,i2 - 1,by first|rfl|(congr 1;omega)|go_num,by first|rfl|(congr 1;omega)|go_num,⟨by omega,by omega⟩,⟨by omega,by omega⟩,ρq,kz.trans (G:=λx=>x=g) ρK (λ_ _ e=>e)⟩
          case measure=>exact ξe
        ·go_wp2_with fail;go_region
         all_goals
          go_wp2;go_roundw;case rel=>exact⟨i2+1,j2 - 1,by first|rfl|(congr 1;omega)|go_num,by first|rfl|(congr 1;omega)|go_num,⟨by omega,by omega⟩,⟨by omega,by omega⟩,ρq,kz.trans (G:=λx=>x=g) ρK (λ_ _ e=>e)⟩
          case measure=>exact ξe
theorem yq (g N n IM:Nat)(a b:Nat)(w:ϖ)(U:US w g N)(hn:n<=N/\n<=49)(IK:a+13<=b)(hb:b<=n):Calls Ψ 283 #[tu g n IM,ι ε a,ι ε b] w λe w'=>∃r:Bool,e=ϰ (β r)/\US w' g N/\KO (λx=>x=g) w w':=by
 have dl:=dt ((b:Int) - (a:Int)<50);go_in;go_wp2_with fail;go_loopw [7,8] (λt u wr=>t=ι ε ((a:Int)+1)/\u=Kz/\US wr g N/\KO (λx=>x=g) w wr) (λ_ _ _=>0);case atStart=>exact⟨rfl,rfl,U,KO.refl _ _⟩
 case round=>
  obtain⟨rfl,rfl,⟨f,U9⟩,k99⟩:=hrel;generalize wr=W at*;go_upto_block 2 with fail;go_cut [7] from 17 to 34 (λt wx=>∃i1:Nat,t=ι ε i1/\(a+1<=i1/\i1<=b)/\UR wx g N f/\KO (λx=>x=g) W wx);case first=>
   go_wp2_with fail;go_loopw [7] (λt wr=>∃i1:Nat,t=ι ε i1/\(a+1<=i1/\i1<=b)/\UR wr g N f/\KO (λx=>x=g) W wr) (λt _=>(b+1 - intOf t).toNat);case atStart=>exact⟨a+1,by first|rfl|(congr 1;omega)|go_num,⟨by omega,by omega⟩,U9,KO.refl _ _⟩
   case round=>
    obtain⟨i1,rfl,hv,U0,IB⟩:=hrel;obtain⟨q,rfl⟩:∃q:Nat,i1=q+1:=⟨i1 - 1,by omega⟩;have b1:((q:Int)+1).toNat=q+1:=ρa;by_cases cg:(q:Int)+1<(b:Int)
    rotate_left
    ·have dg:=ZF cg;have I':=U0.size;go_wp2_with fail;refine δk ?_;clear I';intro v1 F' U1 I' JN
     repeat (go_big_quiet_step ((first
       | (go_at_call 226;(with_reducible exact an (bY _ _ _))))))
     refine Zq (θ2 U1 F') ?_;rintro v2 ⟨U2,Iz⟩;replace I':=U2.size;clear JN U1;go_wp2;go_meet;exact⟨q+1,rfl,hv,U2,Iz⟩
    have dg:=ZT cg;have I':=(U0.cell (i:=q+1) ρa);have Jz:=(U0.cell (i:=q) ρa);have JD:=U0.size;go_wp2_with fail;refine Zw (θ2 IB U0) ?_;rintro v1 ⟨F',U1⟩;replace I':=(U1.cell (i:=q+1) ρa);replace Jz:=(U1.cell (i:=q) ρa);replace JD:=U1.size;have JN:=λd os=>((U1.below (ZW _ d os)).cell (i:=q+1) ρa);have Lg:=λd os=>((U1.below (ZW _ d os)).cell (i:=q) ρa);refine δm ?_;intro KT
    repeat (go_big_quiet_step ((first
      | (go_at_call 226;(with_reducible exact an (bY _ _ _))))))
    refine Zq (θ2 U1 F') ?_;rintro v2 ⟨U2,Iz⟩;replace I':=(U2.cell (i:=q+1) ρa);replace Jz:=(U2.cell (i:=q) ρa);replace JD:=U2.size;clear JN Lg KT U1;by_cases cc:f (q+1)<f q
    rotate_left
    ·have NY:=ZF cc;have Sh:=dt (f q<=f (q+1));have MF:(!decide (f (q+1)<f q))=true:=by rw[NY];rfl
     go_wp2_with fail
     all_goals (first|(refine ax (Eq.trans (MF).symm ?_:true=false) ρf;assumption)|skip)
     go_roundw;case rel=>exact⟨q+1+1,by first|rfl|(congr 1;omega)|go_num,by omega,U2.below ρE,Iz.step0 ρE⟩
     case measure=>exact ξe
    have NY:=ZT cc;have Sh:=df (f q<=f (q+1));have MF:(!decide (f (q+1)<f q))=false:=τ1;go_wp2_with fail
    all_goals (first|(refine ax (Eq.trans (MF).symm ?_:false=true) ρf;assumption)|skip)
    go_meet;exact⟨q+1,rfl,hv,U2,Iz⟩
  case rest=>
   obtain⟨i1,rfl,hi1,U8,Vv⟩:=hcut
   rename ϖ=>V
   have kz:=k99.trans Vv (λ_ _ e=>e);by_cases ci:i1=b
   ·subst ci;go_wp2;go_ret;exact⟨true,rfl,U8.us.below ρE,kz.step0 ρE⟩
   ·have e1:=df ((i1:Int)=(b:Int));have e2:((i1:Int)==(b:Int))=false:=ρ7;have e3:(i1==b)=false:=ρ7;go_wp2;go_ret;exact⟨false,rfl,U8.us.below ρE,kz.step0 ρE⟩
end Go.Proofs.YtfdlemkplejdnaaGreat
