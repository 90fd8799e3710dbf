/- WholeDelay, part 12. Conditions: none. -/
import Derived.Test.YtfdlemkplejdnaaGreatA8
import Derived.Deep.SlicePairs
namespace Go.Proofs.YtfdlemkplejdnaaGreat
open Go.RowKit Go.Sort
open Value renaming int->ι,pointer->ψ,slice->ζ,tuple->χ,agg->φ,map->μ,bool->β
open IntKind renaming u64->υ,i64->ε,u16->ω
open Ending renaming returned->ϰ
open Go.Proofs.Tryz renaming prog->Ψ,underlying3->Θ,underlying147->Δ,underlying152->Γ,underlying202->Φ,underlying39->Ξ,underlying207->Ω
open Go renaming World->ϖ,Value->ϗ
set_option linter.unusedVariables false
set_option linter.unusedSimpArgs false
set_option maxHeartbeats 8000000
set_option maxRecDepth 100000
def UR (w:ϖ)(g N:Nat)(f:Nat->Int):Prop:=(∀i,0<=f i/\f i<=1048576)/\∃cs,ah w g cs 39/\N<=cs.size/\∀i,i<N->cs[i]?=some (ι υ (f i))
def US (w:ϖ)(g N:Nat):Prop:=∃f,UR w g N f
section
variable {w v:ϖ} {g N:Nat} {f:Nat->Int}
theorem UR.cell (h:UR w g N f) {i:Nat} (hi:i<N):w.cell? ⟨g,i,none⟩=some (ι υ (f i)):=by obtain⟨_,cs,h1,_,h3⟩:=h;exact(ah.cell h1 i).trans (h3 i hi)
theorem UR.frozen (h:UR w g N f)(i:Nat):w.frozen? ⟨g,i,none⟩=false:=by obtain⟨_,cs,h1,_⟩:=h;exact ah.frozen h1 i
theorem UR.size (h:UR w g N f):g<w:=by obtain⟨_,cs,h1,_⟩:=h;exact ah.size h1
theorem UR.below (h:UR w g N f)(k:Below w w v):UR v g N f:=by obtain⟨h0,cs,h1,h2⟩:=h;exact⟨h0,cs,ah.below h1 k (ah.size h1),h2⟩
instance {w g N f}:Mv (UR w g N f) w (λv'=>UR v' g N f):=⟨λk h=>UR.below h k⟩
theorem UR.ko {F:Nat->Prop} (h:UR w g N f)(k:KO F w v)(hF:¬F g):UR v g N f:=by obtain⟨h0,cs,h1,h2⟩:=h;exact⟨h0,cs,ah.ko h1 k hF,h2⟩
theorem UR.set (h:UR w g N f)(i:Nat) {x:Int} (hx:kM x):UR (w.setCell ⟨g,i,none⟩ x) g N (λj=>if j=i then x else f j):=by
 obtain⟨h0,cs,h1,h2,h3⟩:=h;refine⟨λj=>by simp only[];split;exact hx;exact h0 j,_,ah.set_same h1 rfl,by simpa using h2,λj hj=>?_⟩;rw[Array.getElem?_setIfInBounds];by_cases e:i=j
 ·subst e;rw[ZP rfl,ZP ρa];simp
 ·rw[ZI e,h3 j hj];simp[Ne.symm e]
theorem UR.us (h:UR w g N f):US w g N:=⟨f,h⟩
theorem US.below (h:US w g N)(k:Below w w v):US v g N:=by obtain⟨f,h⟩:=h;exact⟨f,h.below k⟩
instance {w g N}:Mv (US w g N) w (λv'=>US v' g N):=⟨λk h=>US.below h k⟩
theorem US.set (h:US w g N)(i:Nat) {x:Int} (hx:kM x):US (w.setCell ⟨g,i,none⟩ x) g N:=by obtain⟨f,h⟩:=h;exact⟨_,h.set i hx⟩
theorem US.setCells (h:US w g N) {x:Int} (hx:kM x):∀(m o:Nat),US (w.setCells g o (List.replicate m x)) g N:=by
 intro m
 induction m generalizing w with
 | zero=>intro o;exact h
 | succ m ih=>intro o;exact ih (h.set o hx) (o+1)
end
abbrev uf (g n JN:Nat):ϗ:=ζ (some ⟨g,0,none⟩) n JN
theorem IE (x:Int)(w:ϖ):Calls Ψ 262 #[x] w λe w'=>e=ϰ dK/\w=w':=ξw
theorem bU (x y:Int)(w:ϖ):Calls Ψ 226 #[x,y] w λe w'=>e=ϰ (β (decide (x<y)))/\w=w':=by go_in;go_wp2_with (go_at_call 262;refine(IE _ _).mono ?_;rintro e u ⟨rfl,rfl⟩);go_ret;exact⟨rfl,rfl⟩
theorem IC (g N n JN:Nat)(a b:Int)(w:ϖ)(U:US w g N)(hn:n<=N/\n<=49)(ha:0<=a/\a<=49)(hb:b<=n):Calls Ψ 278 #[uf g n JN,ι ε a,ι ε b] w λe w'=>e=ϰ (χ #[])/\US w' g N/\KO (λx=>x=g) w w':=by
 go_in;go_wp2_with fail;go_loopw [6] (λt wr=>∃i:Int,t=ι ε i/\a+1<=i/\i<=50/\US wr g N/\KO (λx=>x=g) w wr) (λt _=>(b - intOf t).toNat);case atStart=>exact⟨a+1,rfl,by omega,by omega,U,KO.refl _ _⟩
 case round=>
  obtain⟨i,rfl,hi,hi2,VM,JG⟩:=hrel;by_cases c1:i<b
  rotate_left
  ·have d1:=ZF c1;exact ξH
  have d1:=ZT c1;go_wp2_with fail;obtain⟨W,hW⟩:=Nq wr;subst hW;go_loopw [7] (λt wr=>∃j:Int,t=ι ε j/\a<=j/\j<=i/\US wr g N/\KO (λx=>x=g) w wr) (λt _=>(intOf t - a).toNat);case atStart=>exact⟨i,rfl,by omega,ZJ _,VM,JG⟩
  case round=>
   obtain⟨j,rfl,hj,Qd,VN,I'⟩:=hrel;clear VM JG;by_cases c2:a<j
   rotate_left
   ·have d2:=ZF c2;obtain⟨f,U0⟩:=VN;have JG:=I';go_wp2_with fail;refine δi ?_;intro v1 I' U1 J2 KL
    repeat (go_big_quiet_step ((first
      | (go_at_call 226;(with_reducible exact an (bU _ _ _))))))
    refine Zq (θ2 U1 I') ?_;rintro v2 ⟨U2,JE⟩;replace J2:=U2.size;clear KL U1;exact ηQ
   have d2:=ZT c2;obtain⟨q,rfl⟩:∃q:Nat,j=(q:Int)+1:=⟨(j - 1).toNat,by omega⟩;obtain⟨f,U0⟩:=VN;have b1:((q:Int)+1).toNat=q+1:=ρa;have JG:=I';have J2:=(U0.cell (i:=q) ρa);have Ku:=(U0.cell (i:=q+1) ρa);have Kx:=U0.size;go_wp2_with fail;refine Zw (θ2 JG U0) ?_;rintro v1 ⟨I',U1⟩;replace J2:=(U1.cell (i:=q) ρa);replace Ku:=(U1.cell (i:=q+1) ρa);replace Kx:=U1.size;have KL:=λd os=>((U1.below (ZW _ d os)).cell (i:=q) ρa);have MA:=λd os=>((U1.below (ZW _ d os)).cell (i:=q+1) ρa);refine δk ?_;intro Mh
   repeat (go_big_quiet_step ((first
     | (go_at_call 226;(with_reducible exact an (bU _ _ _))))))
   refine Zq (θ2 U1 I') ?_;rintro v2 ⟨U2,JE⟩;replace J2:=(U2.cell (i:=q) ρa);replace Ku:=(U2.cell (i:=q+1) ρa);replace Kx:=U2.size;clear KL MA Mh U1;by_cases c3:f (q+1)<f q
   rotate_left
   ·have d3:=ZF c3;exact ηQ
   have d3:=ZT c3;have Ry:=U2.frozen q;have Rz:=U2.frozen (q+1);have nq:q≠q+1:=ρa;go_wp2_with fail;go_region
   all_goals
    go_wp2;go_roundw;case rel=>exact⟨q,by go_num,by omega,by omega,τD,JE.trans (G:=λx=>x=g) ρK (λ_ _ e=>e)⟩
    case measure=>exact ξe
theorem Aa (g N n JN:Nat)(lo hi first:Nat)(w:ϖ)(U:US w g N)(hn:n<=N/\n<=49)(hl:lo<=49)(hh:first+hi<=n):Calls Ψ 290 #[uf g n JN,ι ε lo,ι ε hi,ι ε first] w λe w'=>e=ϰ (χ #[])/\US w' g N/\KO (λx=>x=g) w w':=by
 go_in;go_wp2_with fail;go_loopw [8] (λt wr=>∃r:Nat,t=ι ε r/\r<=49/\US wr g N/\KO (λx=>x=g) w wr) (λt _=>hi - (intOf t).toNat);case atStart=>exact⟨lo,rfl,hl,U,KO.refl _ _⟩
 case round=>
  obtain⟨r,rfl,hr,VM,JG⟩:=hrel;by_cases c1:(hi:Int)<=2*(r:Int)+1
  ·have d1:=ZT c1;exact ξH
  have d1:=ZF c1;obtain⟨f,U0⟩:=VM;have b1:((first:Int)+(r:Int)).toNat=first+r:=ρa;have b2:((first:Int)+(2*(r:Int)+1)).toNat=first+(2*r+1):=ρa;have b3:((first:Int)+(2*(r:Int)+1)+1).toNat=first+(2*r+2):=ρa;have b4:((first:Int)+(2*(r:Int)+1+1)).toNat=first+(2*r+2):=ρa;by_cases c2:2*(r:Int)+1+1<(hi:Int)
  rotate_left
  ·have d2:=ZF c2;have J2:=(U0.cell (i:=first+r) ρa);have Ku:=(U0.cell (i:=first+(2*r+1)) ρa);have Kx:=U0.size;go_wp2_with fail;refine Zw (θ2 JG U0) ?_;rintro v1 ⟨I',U1⟩;replace J2:=(U1.cell (i:=first+r) ρa);replace Ku:=(U1.cell (i:=first+(2*r+1)) ρa);replace Kx:=U1.size;have KL:=λd os=>((U1.below (ZW _ d os)).cell (i:=first+r) ρa);have MA:=λd os=>((U1.below (ZW _ d os)).cell (i:=first+(2*r+1)) ρa);refine δk ?_;intro Mh
   repeat (go_big_quiet_step ((first
     | (go_at_call 226;(with_reducible exact an (bU _ _ _))))))
   refine Zq (θ2 U1 I') ?_;rintro v2 ⟨U2,JE⟩;replace J2:=(U2.cell (i:=first+r) ρa);replace Ku:=(U2.cell (i:=first+(2*r+1)) ρa);replace Kx:=U2.size;clear KL MA Mh U1;exact ξb
  have d2:=ZT c2;have J2:=(U0.cell (i:=first+(2*r+1)) ρa);have Ku:=(U0.cell (i:=first+(2*r+2)) ρa);have Kx:=U0.size;go_wp2_with fail;refine Zw (θ2 JG U0) ?_;rintro v1 ⟨I',U1⟩;replace J2:=(U1.cell (i:=first+(2*r+1)) ρa);replace Ku:=(U1.cell (i:=first+(2*r+2)) ρa);replace Kx:=U1.size;have KL:=λd os=>((U1.below (ZW _ d os)).cell (i:=first+(2*r+1)) ρa);have MA:=λd os=>((U1.below (ZW _ d os)).cell (i:=first+(2*r+2)) ρa);refine δk ?_;intro Mh
  repeat (go_big_quiet_step ((first
    | (go_at_call 226;(with_reducible exact an (bU _ _ _))))))
  refine Zq (θ2 U1 I') ?_;rintro v2 ⟨U2,JE⟩;replace J2:=(U2.cell (i:=first+(2*r+1)) ρa);replace Ku:=(U2.cell (i:=first+(2*r+2)) ρa);replace Kx:=U2.size;clear KL MA Mh U1;by_cases c3:f (first+(2*r+1))<f (first+(2*r+2))
  rotate_left
  ·have dc3:=ZF c3;have ec3:=dt (f (first+(2*r+2))<=f (first+(2*r+1)));have nc3:(!decide (f (first+(2*r+1))<f (first+(2*r+2))))=true:=by rw[dc3];rfl
   exact ξb
  have dc3:=ZT c3;have ec3:=df (f (first+(2*r+2))<=f (first+(2*r+1)));have nc3:(!decide (f (first+(2*r+1))<f (first+(2*r+2))))=false:=by rw[dc3];rfl
  replace J2:=U2.cell (i:=first+r) ρa;replace Ku:=U2.cell (i:=first+(2*r+2)) ρa;go_wp2_with fail;refine Zw (θ2 JE U2) ?_;rintro v3 ⟨JI,U3⟩;replace J2:=(U3.cell (i:=first+r) ρa);replace Ku:=(U3.cell (i:=first+(2*r+2)) ρa);replace Kx:=U3.size;have KL:=λd os=>((U3.below (ZW _ d os)).cell (i:=first+r) ρa);have MA:=λd os=>((U3.below (ZW _ d os)).cell (i:=first+(2*r+2)) ρa);have Mh:=λd os=>(U3.below (ZW _ d os)).size;refine Wq ?_
  repeat (go_big_quiet_step ((first
    | (go_at_call 226;(with_reducible exact an (bU _ _ _))))))
  refine Zq (θ2 U3 JI) ?_;rintro v4 ⟨U4,JJ⟩;replace J2:=(U4.cell (i:=first+r) ρa);replace Ku:=(U4.cell (i:=first+(2*r+2)) ρa);replace Kx:=U4.size;clear KL MA Mh U3;by_cases c5:f (first+r)<f (first+(2*r+2))
  rotate_left
  ·have ZQ:=ZF c5;have ec5:=dt (f (first+(2*r+2))<=f (first+r));have nc5:(!decide (f (first+r)<f (first+(2*r+2))))=true:=by rw[ZQ];rfl
   go_wp2_with fail
   all_goals (first|(refine az (Eq.trans (nc5).symm ?_:true=false) ρf;assumption)|skip)
   (first|go_end0|((try simp only[Exit.inBlock,Exit.then]);refine ZO (results_none rfl _ _ _) rfl ?_));exact⟨rfl,U4.us,JJ⟩
  have ZQ:=ZT c5;have ec5:=df (f (first+(2*r+2))<=f (first+r));have nc5:(!decide (f (first+r)<f (first+(2*r+2))))=false:=by rw[ZQ];rfl
  have nq:first+r≠first+(2*r+2):=ρa;have Ry:=U4.frozen (first+r);have Rz:=U4.frozen (first+(2*r+2));go_wp2_with fail
  all_goals (first|(refine az (Eq.trans (nc5).symm ?_:false=true) ρf;assumption)|skip)
  go_region
  all_goals
   go_wp2;go_roundw;case rel=>exact⟨2*r+2,by first|rfl|(congr 1;omega),by omega,σz,JJ.trans (G:=λx=>x=g) ρK (λ_ _ e=>e)⟩
   case measure=>simp[intOf];omega
theorem Gr (g N n JN:Nat)(a b:Nat)(w:ϖ)(U:US w g N)(hn:n<=N/\n<=49)(JO:a+13<=b)(hb:b<=n):Calls Ψ 279 #[uf g n JN,ι ε a,ι ε b] w λe w'=>e=ϰ (χ #[])/\US w' g N/\KO (λx=>x=g) w w':=by
 obtain⟨h,hh⟩:∃h:Nat,(b:Int) - (a:Int)=h:=⟨b - a,by omega⟩;go_in;go_wp2_with fail;go_loopw [9] (λt wr=>∃i:Int,t=ι ε i/\-1<=i/\i<=49/\US wr g N/\KO (λx=>x=g) w wr) (λt _=>(intOf t+1).toNat);case atStart=>exact⟨_,rfl,by omega,by omega,U,KO.refl _ _⟩
 case round=>
  obtain⟨i,rfl,hi,hi2,VM,JG⟩:=hrel;by_cases c1:0<=i
  rotate_left
  ·have d1:=ZF c1;go_wp2_with fail;go_loopw [10] (λt wr=>∃i:Int,t=ι ε i/\-1<=i/\i<h/\US wr g N/\KO (λx=>x=g) w wr) (λt _=>(intOf t+1).toNat);case atStart=>exact⟨_,rfl,by omega,by omega,VM,JG⟩
   case round=>
    obtain⟨j,rfl,hj,Qd,VN,I'⟩:=hrel;by_cases c2:0<=j
    rotate_left
    ·have d2:=ZF c2;go_wp2_with fail;(first|go_end0|((try simp only[Exit.inBlock,Exit.then]);refine ZO (results_none rfl _ _ _) rfl ?_));exact⟨rfl,VN,I'⟩
    have d2:=ZT c2;obtain⟨q,rfl⟩:∃q:Nat,j=(q:Int):=⟨j.toNat,by omega⟩;obtain⟨f,U0⟩:=VN;have Km:=I';have b1:((a:Int)+(q:Int)).toNat=a+q:=ρa;have J2:=U0.cell (i:=a) ρa;have Ku:=U0.cell (i:=a+q) ρa;have Kx:=U0.size;have Ry:=U0.frozen a;have Rz:=U0.frozen (a+q);have nq:q=0\/a≠a+q:=ρa;rcases nq with rfl|nq
    all_goals (go_wp2_with fail;go_region)
    all_goals
     go_wp2_with fail;refine au wr (λv=>KO (λx=>x=g) wr v/\US v g N) (λv=>KO (λx=>x=g) w v/\US v g N) ⟨ρK,ρZ⟩ (λkx=>⟨Km.trans kx.1 (λ_ _ e=>e),kx.2⟩) ?_;rintro v1 ⟨k1,VN⟩
     first|refine(Aa g N n JN 0 q a v1 VN hn ρa ρa).mono ?_|refine(Aa g N n JN 0 0 a v1 VN hn ρa ρa).mono ?_
     rintro e v2 ⟨rfl,US2,k2⟩;go_wp2;go_roundw;case rel=>exact⟨_,rfl,by omega,by omega,US2.below ρE,(k1.trans k2 (λ_ _ e=>e)).step0 ρE⟩
     case measure=>exact ξe
  have d1:=ZT c1;obtain⟨q,rfl⟩:∃q:Nat,i=(q:Int):=⟨i.toNat,by omega⟩;go_wp2_with fail;refine(Aa g N n JN q h a wr VM hn ρa ρa).mono ?_;rintro e v2 ⟨rfl,US2,k2⟩;go_wp2;go_roundw;case rel=>exact⟨_,rfl,by omega,by omega,US2.below ρE,(JG.trans k2 (λ_ _ e=>e)).step0 ρE⟩
  case measure=>exact ξe
theorem EM (g N n JN:Nat)(a b S lo hi:Nat)(s:Int)(w:ϖ)(U:US w g N)(hn:n<=N/\n<=49)(B:ah w S #[ι ε s] 3)(gS:g≠S)(hs:0<=s/\s<=8)(hh:hi<=n)(ha:lo<=a/\a<hi)(hb:lo<=b/\b<hi):Calls Ψ 293 #[uf g n JN,ι ε a,ι ε b,S] w λe w'=>∃x y:Nat,e=ϰ (χ #[ι ε x,ι ε y])/\(lo<=x/\x<hi)/\(lo<=y/\y<hi)/\∃s':Int,(s<=s'/\s'<=s+1)/\ah w' S #[ι ε s'] 3/\KO (λz=>z=S) w w':=by
 obtain⟨f,U0⟩:=U;have S0:=B;have JG:KO (λz=>z=S) w w:=KO.refl _ _;have Rr:=S0.r;have J2:=(U0.cell (i:=a) ρa);have Ku:=(U0.cell (i:=b) ρa);have Kx:=U0.size;go_in;go_wp2_with fail;refine bK (θ3 JG U0 S0) ?_;clear Rr;rintro v1 ⟨I',U1,S1⟩ Rr;replace J2:=(U1.cell (i:=a) ρa);replace Ku:=(U1.cell (i:=b) ρa);replace Kx:=U1.size;have KL:=λd os=>((U1.below (ZW _ d os)).cell (i:=a) ρa);have MA:=λd os=>((U1.below (ZW _ d os)).cell (i:=b) ρa);have Mh:=λd os=>(U1.below (ZW _ d os)).size;have q:=ae S1;refine Wq ?_
 repeat (go_big_quiet_step ((first
   | (go_at_call 226;(with_reducible exact an (bU _ _ _))))))
 refine bB (θ3 U1 S1 I') ?_;clear Rr;rintro v2 ⟨U2,S2,JE⟩ Rr;replace J2:=(U2.cell (i:=a) ρa);replace Ku:=(U2.cell (i:=b) ρa);replace Kx:=U2.size;clear q KL MA Mh U1 S1;by_cases c1:f b<f a
 rotate_left
 ·have d1:=ZF c1;go_wp2;go_ret2;exact⟨a,b,rfl,ha,hb,s,⟨by omega,by omega⟩,S2.below ρE S2.size,JE.step0 ρE⟩
 have d1:=ZT c1;go_wp2;go_ret2;exact⟨b,a,rfl,hb,ha,s+1,⟨by omega,by omega⟩,ρB,JE.trans (G:=λz=>z=S) ρK (λ_ _ e=>e)⟩
theorem ID (g N n JN:Nat)(a b c S lo hi:Nat)(s:Int)(w:ϖ)(U:US w g N)(hn:n<=N/\n<=49)(B:ah w S #[ι ε s] 3)(gS:g≠S)(hs:0<=s/\s<=4)(hh:hi<=n)(ha:lo<=a/\a<hi)(hb:lo<=b/\b<hi)(hc:lo<=c/\c<hi):Calls Ψ 292 #[uf g n JN,ι ε a,ι ε b,ι ε c,S] w λe w'=>∃x:Nat,e=ϰ (ι ε x)/\(lo<=x/\x<hi)/\∃s':Int,(s<=s'/\s'<=s+3)/\ah w' S #[ι ε s'] 3/\KO (λz=>z=S) w w':=by
 go_in;have U9:=U;have B9:=B;go_wp2_with fail;refine au w (λv=>Below w w v) (λv=>Below w w v/\US v g N/\ah v S #[ι ε s] 3) ρE (λkx=>⟨kx,U9.below kx,B9.below kx B9.size⟩) ?_;rintro v0 ⟨m0,U0,B0⟩;refine(EM g N n JN a b S lo hi s v0 U0 hn B0 gS ρa hh ρa ρa).mono ?_;rintro e v2 ⟨x2,y2,rfl,NY,hy2,s2,Ki,B2,k2⟩;have U2:US v2 g N:=by obtain⟨f,h⟩:=U0;exact⟨f,h.ko k2 gS⟩
 go_wp2_with fail;refine au v2 (λv=>Below v2 v2 v) (λv=>Below v2 v2 v/\US v g N/\ah v S #[ι ε s2] 3) ρE (λkx=>⟨kx,US.below U2 kx,B2.below kx B2.size⟩) ?_;rintro v3 ⟨m3,U3,B3⟩;refine(EM g N n JN y2 c S lo hi s2 v3 U3 hn B3 gS ρa hh ρa ρa).mono ?_;rintro e v5 ⟨x5,y5,rfl,hx5,hy5,s5,Xr,B5,k5⟩;have U5:US v5 g N:=by obtain⟨f,h⟩:=U3;exact⟨f,h.ko k5 gS⟩
 go_wp2_with fail;refine au v5 (λv=>Below v5 v5 v) (λv=>Below v5 v5 v/\US v g N/\ah v S #[ι ε s5] 3) ρE (λkx=>⟨kx,US.below U5 kx,B5.below kx B5.size⟩) ?_;rintro v6 ⟨m6,U6,B6⟩;refine(EM g N n JN x2 x5 S lo hi s5 v6 U6 hn B6 gS ρa hh ρa ρa).mono ?_;rintro e v8 ⟨x8,y8,rfl,hx8,hy8,s8,hs8,B8,k8⟩;have U8:US v8 g N:=by obtain⟨f,h⟩:=U6;exact⟨f,h.ko k8 gS⟩
 go_wp2;go_ret;exact⟨y8,rfl,hy8,s8,⟨by omega,by omega⟩,B8.below ρE B8.size,(((((KO.of_below m0).trans k2 (λ_ _ e=>e)).step0 m3).trans k5 (λ_ _ e=>e)).step0 m6 |>.trans k8 (λ_ _ e=>e)).step0 ρE⟩
theorem EP (g N n JN:Nat)(a b:Nat)(w:ϖ)(U:US w g N)(hn:n<=N/\n<=49)(JO:a+13<=b)(hb:b<=n):Calls Ψ 281 #[uf g n JN,ι ε a,ι ε b] w λe w'=>∃(j:Nat)(h:Int),e=ϰ (χ #[ι ε j,ι ε h])/\(a<=j/\j<b)/\(h=0\/h=1)/\Below w w w':=by
 obtain⟨l,hl⟩:∃l:Nat,(b:Int) - (a:Int)=l:=⟨b - a,by omega⟩;obtain⟨q,hq⟩:∃q:Nat,(l:Int) / 4=q:=⟨l / 4,by omega⟩;obtain⟨x1,KA⟩:∃x:Nat,(a:Int)+q=x:=⟨a+q,by omega⟩;obtain⟨x2,NY⟩:∃x:Nat,(a:Int)+q*2=x:=⟨a+q*2,by omega⟩;obtain⟨x3,hx3⟩:∃x:Nat,(a:Int)+q*3=x:=⟨a+q*3,by omega⟩;have d1:=dt (8<=(l:Int));have d2:=df (50<=(l:Int));have zU:=(by obtain⟨f,h⟩:=U;exact h.size:g<w);go_in;go_wp2_with fail;refine au w (λv=>Below w w v) (λv=>Below w w v/\US v g N/\ah v w #[Kz] 3) ρE (λkx=>⟨kx,US.below U kx,ρB⟩) ?_;rintro v1 ⟨k1,U1,B1⟩;have z1:=k1.size;have zB:=B1.size;obtain⟨S,hS⟩:=Nq w.heap.size;rw[hS] at B1 zB zU ⊢;have gS:g≠S:=ρa;refine(ID g N n JN x1 x2 x3 S a b 0 v1 U1 hn B1 gS ρa ρa ρa ρa ρa).mono ?_;rintro e v2 ⟨y,rfl,hy,s,hs,B2,k2⟩;have cB:=B2.cell;have fB:=B2.frozen;have zB2:=B2.size;have kk:Below w w v2:=k1.trans (k2.below ρa (λz hz e=>by omega));by_cases c0:s=0
 ·subst c0;go_wp2;go_ret2;exact⟨y,1,rfl,hy,.inr rfl,hS ▸ kk.trans ρE⟩
 have e0:(s==0)=false:=by simpa using c0
 have e12:(s==12)=false:=ρ6;go_wp2;go_ret2;exact⟨y,0,rfl,hy,.inl rfl,hS ▸ kk.trans ρE⟩
theorem EO (g N n JN:Nat)(a b p:Nat)(w:ϖ)(U:US w g N)(hn:n<=N/\n<=49)(hp:a<=p/\p<b)(hb:b<=n):Calls Ψ 284 #[uf g n JN,ι ε a,ι ε b,ι ε p] w λe w'=>∃m:Nat,e=ϰ (ι ε m)/\a<m/\m<=b/\US w' g N/\KO (λx=>x=g) w w':=by
 obtain⟨f0,U0⟩:=U;have J2:=U0.cell (i:=a) ρa;have Ku:=U0.cell (i:=p) ρa;have Kx:=U0.size;have Ry:=U0.frozen a;have Rz:=U0.frozen p;have nq:a=p\/a≠p:=ρa;go_in;rcases nq with nq|nq
 ·subst nq;go_wp2_with fail;go_region;go_upto_region 2 with fail;exact ξa
 ·go_wp2_with fail;go_region;go_upto_region 2 with fail;exact ξa
theorem Gw (g N n JN:Nat)(a b p:Nat)(w:ϖ)(U:US w g N)(hn:n<=N/\n<=49)(hp:a<=p/\p<b)(hb:b<=n):Calls Ψ 285 #[uf g n JN,ι ε a,ι ε b,ι ε p] w λe w'=>∃(m:Nat)(r:Bool),e=ϰ (χ #[ι ε m,β r])/\a<=m/\m<b/\US w' g N/\KO (λx=>x=g) w w':=by
 obtain⟨f0,U0⟩:=U;obtain⟨j0,hj0⟩:∃j:Nat,(b:Int) - 1=j:=⟨b - 1,by omega⟩;go_in;go_upto_region 1 with fail;have J2:=U0.cell (i:=a) ρa;have Ku:=U0.cell (i:=p) ρa;have Kx:=U0.size;have Ry:=U0.frozen (a);have Rz:=U0.frozen (p);have nq:a=p\/a≠p:=ρa;go_cut [] from 12 to 25 (λwx=>US wx g N/\KO (λx=>x=g) w wx);case first=>
  rcases nq with nq|nq
  ·subst nq;go_region
   all_goals
    go_wp2;go_meet;exact⟨ρZ,ρK⟩
  ·go_region
   all_goals
    go_wp2;go_meet;exact⟨ρZ,ρK⟩
 case rest=>
  obtain⟨⟨f,U1⟩,kW⟩:=hcut
  rename ϖ=>W
  clear J2 Ku Kx Ry Rz nq U0;go_upto_block 0 with fail;go_cut [10] from 30 to 45 (λt wx=>∃i1:Nat,t=ι ε i1/\(a+1<=i1/\i1<=b)/\UR wx g N f/\KO (λx=>x=g) W wx);case first=>
   go_wp2_with fail;go_loopw [10] (λt wr=>∃i1:Nat,t=ι ε i1/\(a+1<=i1/\i1<=b)/\UR wr g N f/\KO (λx=>x=g) W wr) (λt _=>(j0+1 - intOf t).toNat);case atStart=>exact⟨a+1,by first|rfl|(congr 1;omega)|go_num,⟨by omega,by omega⟩,U1,KO.refl _ _⟩
   case round=>
    obtain⟨i1,rfl,hv,U0,JG⟩:=hrel;by_cases cg:i1<=j0
    rotate_left
    ·have dg:=ZF cg;have J2:=U0.size;go_wp2_with fail;refine δi ?_;clear J2;intro v1 I' U1 J2 KL
     repeat (go_big_quiet_step ((first
       | (go_at_call 226;(with_reducible exact an (bU _ _ _))))))
     refine Zq (θ2 U1 I') ?_;rintro v2 ⟨U2,JE⟩;replace J2:=U2.size;clear KL U1;go_wp2;go_meet;exact⟨i1,rfl,hv,U2,JE⟩
    have dg:=ZT cg;have J2:=(U0.cell (i:=i1) ρa);have Ku:=(U0.cell (i:=a) ρa);have Kx:=U0.size;go_wp2_with fail;refine Zw (θ2 JG U0) ?_;rintro v1 ⟨I',U1⟩;replace J2:=(U1.cell (i:=i1) ρa);replace Ku:=(U1.cell (i:=a) ρa);replace Kx:=U1.size;have KL:=λd os=>((U1.below (ZW _ d os)).cell (i:=i1) ρa);refine δV ?_;intro MA Mh
    repeat (go_big_quiet_step ((first
      | (go_at_call 226;(with_reducible exact an (bU _ _ _))))))
    refine Zq (θ2 U1 I') ?_;rintro v2 ⟨U2,JE⟩;replace J2:=(U2.cell (i:=i1) ρa);replace Ku:=(U2.cell (i:=a) ρa);replace Kx:=U2.size;clear KL MA Mh U1;by_cases cc:f i1<f a
    rotate_left
    ·have OO:=ZF cc;have Tc:=dt (f a<=f i1);have NB:(!decide (f i1<f a))=true:=by rw[OO];rfl
     go_wp2_with fail
     all_goals (first|(refine az (Eq.trans (NB).symm ?_:true=false) ρf;assumption)|skip)
     go_meet;exact⟨i1,rfl,hv,U2,JE⟩
    have OO:=ZT cc;have Tc:=df (f a<=f i1);have NB:(!decide (f i1<f a))=false:=τ1;go_wp2_with fail
    all_goals (first|(refine az (Eq.trans (NB).symm ?_:false=true) ρf;assumption)|skip)
    go_roundw;case rel=>exact⟨i1+1,by first|rfl|(congr 1;omega)|go_num,by omega,U2.below ρE,JE.step0 ρE⟩
    case measure=>exact ξe
  case rest=>
   obtain⟨i1,rfl,hi1,U8,Wk⟩:=hcut;go_upto_block 2 with fail;go_cut [11] from 46 to 62 (λt wx=>∃j1:Nat,t=ι ε j1/\(a<=j1/\j1<b)/\UR wx g N f/\KO (λx=>x=g) W wx);case first=>
    go_wp2_with fail;go_loopw [11] (λt wr=>∃j1:Nat,t=ι ε j1/\(a<=j1/\j1<b)/\UR wr g N f/\KO (λx=>x=g) W wr) (λt _=>(intOf t).toNat);case atStart=>exact⟨j0,rfl,by omega,U8,Wk⟩
    case round=>
     obtain⟨j1,rfl,hv,U0,JG⟩:=hrel;by_cases cg:i1<=j1
     rotate_left
     ·have dg:=ZF cg;have J2:=U0.size;go_wp2_with fail;refine δi ?_;clear J2;intro v1 I' U1 J2 KL
      repeat (go_big_quiet_step ((first
        | (go_at_call 226;(with_reducible exact an (bU _ _ _))))))
      refine Zq (θ2 U1 I') ?_;rintro v2 ⟨U2,JE⟩;replace J2:=U2.size;clear KL U1;go_wp2;go_meet;exact⟨j1,rfl,hv,U2,JE⟩
     have dg:=ZT cg;have J2:=(U0.cell (i:=j1) ρa);have Ku:=(U0.cell (i:=a) ρa);have Kx:=U0.size;go_wp2_with fail;refine Zw (θ2 JG U0) ?_;rintro v1 ⟨I',U1⟩;replace J2:=(U1.cell (i:=j1) ρa);replace Ku:=(U1.cell (i:=a) ρa);replace Kx:=U1.size;have KL:=λd os=>((U1.below (ZW _ d os)).cell (i:=j1) ρa);refine δV ?_;intro MA Mh
     repeat (go_big_quiet_step ((first
       | (go_at_call 226;(with_reducible exact an (bU _ _ _))))))
     refine Zq (θ2 U1 I') ?_;rintro v2 ⟨U2,JE⟩;replace J2:=(U2.cell (i:=j1) ρa);replace Ku:=(U2.cell (i:=a) ρa);replace Kx:=U2.size;clear KL MA Mh U1;by_cases cc:f j1<f a
     rotate_left
     ·have OO:=ZF cc;have Tc:=dt (f a<=f j1);have NB:(!decide (f j1<f a))=true:=by rw[OO];rfl
      go_wp2_with fail
      all_goals (first|(refine az (Eq.trans (NB).symm ?_:true=false) ρf;assumption)|skip)
      go_roundw;case rel=>exact⟨j1 - 1,by first|rfl|(congr 1;omega)|go_num,by omega,U2.below ρE,JE.step0 ρE⟩
      case measure=>exact ξe
     have OO:=ZT cc;have Tc:=df (f a<=f j1);have NB:(!decide (f j1<f a))=false:=τ1;go_wp2_with fail
     all_goals (first|(refine az (Eq.trans (NB).symm ?_:false=true) ρf;assumption)|skip)
     go_meet;exact⟨j1,rfl,hv,U2,JE⟩
   case rest=>
    obtain⟨j1,rfl,hj1,U7,k77⟩:=hcut
    rename ϖ=>V
    clear U8 Wk;have kz:=kW.trans k77 (λ_ _ e=>e);by_cases cx:j1<i1
    ·have dx:=ZT cx;go_upto_region 8 with fail;have J2:=U7.cell (i:=j1) ρa;have Ku:=U7.cell (i:=a) ρa;have Kx:=U7.size;have Ry:=U7.frozen (j1);have Rz:=U7.frozen (a);have nq:j1=a\/j1≠a:=ρa;go_cut [] from 66 to 79 (λwx=>US wx g N/\KO (λx=>x=g) V wx);case first=>
      exact ξz
     case rest=>
      obtain⟨US6,k66⟩:=hcut;go_wp2;go_ret2;exact⟨j1,true,rfl,by omega,by omega,US6.below ρE,(kz.trans k66 (λ_ _ e=>e)).step0 ρE⟩
    have dx:=ZF cx;go_upto_region 10 with fail;have J2:=U7.cell (i:=i1) ρa;have Ku:=U7.cell (i:=j1) ρa;have Kx:=U7.size;have Ry:=U7.frozen (i1);have Rz:=U7.frozen (j1);have nq:i1=j1\/i1≠j1:=ρa;go_cut [] from 81 to 94 (λwx=>US wx g N/\KO (λx=>x=g) V wx);case first=>
     exact ξz
    case rest=>
     obtain⟨US6,k66⟩:=hcut;clear J2 Ku Kx Ry Rz nq;have k9:=kz.trans k66 (λ_ _ e=>e);clear kz k66 k77 U7
     rename ϖ=>V2
     go_wp2_with fail;go_loopw [10,11] (λt u wr=>∃i j:Nat,t=ι ε i/\u=ι ε j/\(a+1<=i/\i<=b)/\(a<=j/\j<b)/\US wr g N/\KO (λx=>x=g) w wr) (λt u _=>(intOf u+2 - intOf t).toNat);case atStart=>exact⟨i1+1,j1 - 1,by first|rfl|(congr 1;omega)|go_num,by first|rfl|(congr 1;omega)|go_num,⟨by omega,by omega⟩,⟨by omega,by omega⟩,US6,k9⟩
     case round=>
      obtain⟨i,j,rfl,rfl,hi,hj,⟨f,U9⟩,k99⟩:=hrel;clear US6 k9 hi1 hj1;generalize wr=W at*;go_upto_block 6 with fail;go_cut [10] from 99 to 114 (λt wx=>∃i2:Nat,t=ι ε i2/\((a+1<=i2/\i2<=b)/\i<=i2)/\UR wx g N f/\KO (λx=>x=g) W wx);case first=>
       go_wp2_with fail;go_loopw [10] (λt wr=>∃i2:Nat,t=ι ε i2/\((a+1<=i2/\i2<=b)/\i<=i2)/\UR wr g N f/\KO (λx=>x=g) W wr) (λt _=>(j+1 - intOf t).toNat);case atStart=>exact⟨i,rfl,⟨hi,ZR _⟩,U9,KO.refl _ _⟩
       case round=>
        obtain⟨i2,rfl,hv,U0,JG⟩:=hrel;by_cases cg:i2<=j
        rotate_left
        ·have dg:=ZF cg;have J2:=U0.size;go_wp2_with fail;refine δi ?_;clear J2;intro v1 I' U1 J2 KL
         repeat (go_big_quiet_step ((first
           | (go_at_call 226;(with_reducible exact an (bU _ _ _))))))
         refine Zq (θ2 U1 I') ?_;rintro v2 ⟨U2,JE⟩;replace J2:=U2.size;clear KL U1;go_wp2;go_meet;exact⟨i2,rfl,hv,U2,JE⟩
        have dg:=ZT cg;have J2:=(U0.cell (i:=i2) ρa);have Ku:=(U0.cell (i:=a) ρa);have Kx:=U0.size;go_wp2_with fail;refine Zw (θ2 JG U0) ?_;rintro v1 ⟨I',U1⟩;replace J2:=(U1.cell (i:=i2) ρa);replace Ku:=(U1.cell (i:=a) ρa);replace Kx:=U1.size;have KL:=λd os=>((U1.below (ZW _ d os)).cell (i:=i2) ρa);refine δV ?_;intro MA Mh
        repeat (go_big_quiet_step ((first
          | (go_at_call 226;(with_reducible exact an (bU _ _ _))))))
        refine Zq (θ2 U1 I') ?_;rintro v2 ⟨U2,JE⟩;replace J2:=(U2.cell (i:=i2) ρa);replace Ku:=(U2.cell (i:=a) ρa);replace Kx:=U2.size;clear KL MA Mh U1;by_cases cc:f i2<f a
        rotate_left
        ·have OO:=ZF cc;have Tc:=dt (f a<=f i2);have NB:(!decide (f i2<f a))=true:=by rw[OO];rfl
         go_wp2_with fail
         all_goals (first|(refine az (Eq.trans (NB).symm ?_:true=false) ρf;assumption)|skip)
         go_meet;exact⟨i2,rfl,hv,U2,JE⟩
        have OO:=ZT cc;have Tc:=df (f a<=f i2);have NB:(!decide (f i2<f a))=false:=τ1;go_wp2_with fail
        all_goals (first|(refine az (Eq.trans (NB).symm ?_:false=true) ρf;assumption)|skip)
        go_roundw;case rel=>exact⟨i2+1,by first|rfl|(congr 1;omega)|go_num,by omega,U2.below ρE,JE.step0 ρE⟩
        case measure=>exact ξe
      case rest=>
       obtain⟨i2,rfl,hi2,U8,Wk⟩:=hcut;clear hi;go_upto_block 8 with fail;go_cut [11] from 115 to 131 (λt wx=>∃j2:Nat,t=ι ε j2/\((a<=j2/\j2<b)/\j2<=j)/\UR wx g N f/\KO (λx=>x=g) W wx);case first=>
        go_wp2_with fail;go_loopw [11] (λt wr=>∃j2:Nat,t=ι ε j2/\((a<=j2/\j2<b)/\j2<=j)/\UR wr g N f/\KO (λx=>x=g) W wr) (λt _=>(intOf t).toNat);case atStart=>exact⟨j,rfl,⟨hj,ZR _⟩,U8,Wk⟩
        case round=>
         obtain⟨j2,rfl,hv,U0,JG⟩:=hrel;by_cases cg:i2<=j2
         rotate_left
         ·have dg:=ZF cg;have J2:=U0.size;go_wp2_with fail;refine δi ?_;clear J2;intro v1 I' U1 J2 KL
          repeat (go_big_quiet_step ((first
            | (go_at_call 226;(with_reducible exact an (bU _ _ _))))))
          refine Zq (θ2 U1 I') ?_;rintro v2 ⟨U2,JE⟩;replace J2:=U2.size;clear KL U1;go_wp2;go_meet;exact⟨j2,rfl,hv,U2,JE⟩
         have dg:=ZT cg;have J2:=(U0.cell (i:=j2) ρa);have Ku:=(U0.cell (i:=a) ρa);have Kx:=U0.size;go_wp2_with fail;refine Zw (θ2 JG U0) ?_;rintro v1 ⟨I',U1⟩;replace J2:=(U1.cell (i:=j2) ρa);replace Ku:=(U1.cell (i:=a) ρa);replace Kx:=U1.size;have KL:=λd os=>((U1.below (ZW _ d os)).cell (i:=j2) ρa);refine δV ?_;intro MA Mh
         repeat (go_big_quiet_step ((first
           | (go_at_call 226;(with_reducible exact an (bU _ _ _))))))
         refine Zq (θ2 U1 I') ?_;rintro v2 ⟨U2,JE⟩;replace J2:=(U2.cell (i:=j2) ρa);replace Ku:=(U2.cell (i:=a) ρa);replace Kx:=U2.size;clear KL MA Mh U1;by_cases cc:f j2<f a
         rotate_left
         ·have OO:=ZF cc;have Tc:=dt (f a<=f j2);have NB:(!decide (f j2<f a))=true:=by rw[OO];rfl
          go_wp2_with fail
          all_goals (first|(refine az (Eq.trans (NB).symm ?_:true=false) ρf;assumption)|skip)
          go_roundw;case rel=>exact⟨j2 - 1,by first|rfl|(congr 1;omega)|go_num,by omega,U2.below ρE,JE.step0 ρE⟩
          case measure=>exact ξe
         have OO:=ZT cc;have Tc:=df (f a<=f j2);have NB:(!decide (f j2<f a))=false:=τ1;go_wp2_with fail
         all_goals (first|(refine az (Eq.trans (NB).symm ?_:false=true) ρf;assumption)|skip)
         go_meet;exact⟨j2,rfl,hv,U2,JE⟩
       case rest=>
        obtain⟨j2,rfl,Qd,U7,k77⟩:=hcut
        rename ϖ=>wz
        clear hj U8 Wk;have kz:=k99.trans k77 (λ_ _ e=>e);by_cases cx:j2<i2
        ·have dx:=ZT cx;go_upto_region 21 with fail;have J2:=U7.cell (i:=j2) ρa;have Ku:=U7.cell (i:=a) ρa;have Kx:=U7.size;have Ry:=U7.frozen (j2);have Rz:=U7.frozen (a);have nq:j2=a\/j2≠a:=ρa;go_cut [] from 153 to 166 (λwx=>US wx g N/\KO (λx=>x=g) wz wx);case first=>
          exact ξz
         case rest=>
          obtain⟨US6,k66⟩:=hcut;go_wp2;go_ret2;exact⟨j2,false,rfl,by omega,by omega,US6.below ρE,(kz.trans k66 (λ_ _ e=>e)).step0 ρE⟩
        have dx:=ZF cx;have J2:=U7.cell (i:=i2) ρa;have Ku:=U7.cell (i:=j2) ρa;have Kx:=U7.size;have Ry:=U7.frozen i2;have Rz:=U7.frozen j2;have nz:i2=j2\/i2≠j2:=ρa;rcases nz with nz|nz
        ·subst nz;go_wp2_with fail;go_region
         all_goals
          go_wp2;go_roundw;case rel=>exact⟨i2+1,i2 - 1,by first|rfl|(congr 1;omega)|go_num,by first|rfl|(congr 1;omega)|go_num,⟨by omega,by omega⟩,⟨by omega,by omega⟩,ρq,kz.trans (G:=λx=>x=g) ρK (λ_ _ e=>e)⟩
          case measure=>exact ξe
        ·go_wp2_with fail;go_region
         all_goals
          go_wp2;go_roundw;case rel=>exact⟨i2+1,j2 - 1,by first|rfl|(congr 1;omega)|go_num,by first|rfl|(congr 1;omega)|go_num,⟨by omega,by omega⟩,⟨by omega,by omega⟩,ρq,kz.trans (G:=λx=>x=g) ρK (λ_ _ e=>e)⟩
          case measure=>exact ξe
theorem zW (g N n JN:Nat)(a b:Nat)(w:ϖ)(U:US w g N)(hn:n<=N/\n<=49)(JO:a+13<=b)(hb:b<=n):Calls Ψ 283 #[uf g n JN,ι ε a,ι ε b] w λe w'=>∃r:Bool,e=ϰ (β r)/\US w' g N/\KO (λx=>x=g) w w':=by
 have dl:=dt ((b:Int) - (a:Int)<50);go_in;go_wp2_with fail;go_loopw [7,8] (λt u wr=>t=ι ε ((a:Int)+1)/\u=Kz/\US wr g N/\KO (λx=>x=g) w wr) (λ_ _ _=>0);case atStart=>exact⟨rfl,rfl,U,KO.refl _ _⟩
 case round=>
  obtain⟨rfl,rfl,⟨f,U9⟩,k99⟩:=hrel;generalize wr=W at*;go_upto_block 2 with fail;go_cut [7] from 17 to 34 (λt wx=>∃i1:Nat,t=ι ε i1/\(a+1<=i1/\i1<=b)/\UR wx g N f/\KO (λx=>x=g) W wx);case first=>
   go_wp2_with fail;go_loopw [7] (λt wr=>∃i1:Nat,t=ι ε i1/\(a+1<=i1/\i1<=b)/\UR wr g N f/\KO (λx=>x=g) W wr) (λt _=>(b+1 - intOf t).toNat);case atStart=>exact⟨a+1,by first|rfl|(congr 1;omega)|go_num,⟨by omega,by omega⟩,U9,KO.refl _ _⟩
   case round=>
    obtain⟨i1,rfl,hv,U0,JG⟩:=hrel;obtain⟨q,rfl⟩:∃q:Nat,i1=q+1:=⟨i1 - 1,by omega⟩;have b1:((q:Int)+1).toNat=q+1:=ρa;by_cases cg:(q:Int)+1<(b:Int)
    rotate_left
    ·have dg:=ZF cg;have J2:=U0.size;go_wp2_with fail;refine δi ?_;clear J2;intro v1 I' U1 J2 KL
     repeat (go_big_quiet_step ((first
       | (go_at_call 226;(with_reducible exact an (bU _ _ _))))))
     refine Zq (θ2 U1 I') ?_;rintro v2 ⟨U2,JE⟩;replace J2:=U2.size;clear KL U1;go_wp2;go_meet;exact⟨q+1,rfl,hv,U2,JE⟩
    have dg:=ZT cg;have J2:=(U0.cell (i:=q+1) ρa);have Ku:=(U0.cell (i:=q) ρa);have Kx:=U0.size;go_wp2_with fail;refine Zw (θ2 JG U0) ?_;rintro v1 ⟨I',U1⟩;replace J2:=(U1.cell (i:=q+1) ρa);replace Ku:=(U1.cell (i:=q) ρa);replace Kx:=U1.size;have KL:=λd os=>((U1.below (ZW _ d os)).cell (i:=q+1) ρa);have MA:=λd os=>((U1.below (ZW _ d os)).cell (i:=q) ρa);refine δk ?_;intro Mh
    repeat (go_big_quiet_step ((first
      | (go_at_call 226;(with_reducible exact an (bU _ _ _))))))
    refine Zq (θ2 U1 I') ?_;rintro v2 ⟨U2,JE⟩;replace J2:=(U2.cell (i:=q+1) ρa);replace Ku:=(U2.cell (i:=q) ρa);replace Kx:=U2.size;clear KL MA Mh U1;by_cases cc:f (q+1)<f q
    rotate_left
    ·have OO:=ZF cc;have Tc:=dt (f q<=f (q+1));have NB:(!decide (f (q+1)<f q))=true:=by rw[OO];rfl
     go_wp2_with fail
     all_goals (first|(refine az (Eq.trans (NB).symm ?_:true=false) ρf;assumption)|skip)
     go_roundw;case rel=>exact⟨q+1+1,by first|rfl|(congr 1;omega)|go_num,by omega,U2.below ρE,JE.step0 ρE⟩
     case measure=>exact ξe
    have OO:=ZT cc;have Tc:=df (f q<=f (q+1));have NB:(!decide (f (q+1)<f q))=false:=τ1;go_wp2_with fail
    all_goals (first|(refine az (Eq.trans (NB).symm ?_:false=true) ρf;assumption)|skip)
    go_meet;exact⟨q+1,rfl,hv,U2,JE⟩
  case rest=>
   obtain⟨i1,rfl,hi1,U8,Wk⟩:=hcut
   rename ϖ=>V
   have kz:=k99.trans Wk (λ_ _ e=>e);by_cases ci:i1=b
   ·subst ci;go_wp2;go_ret;exact⟨true,rfl,U8.us.below ρE,kz.step0 ρE⟩
   ·have e1:=df ((i1:Int)=(b:Int));have e2:((i1:Int)==(b:Int))=false:=ρ6;have e3:(i1==b)=false:=ρ6;go_wp2;go_ret;exact⟨false,rfl,U8.us.below ρE,kz.step0 ρE⟩
end Go.Proofs.YtfdlemkplejdnaaGreat
