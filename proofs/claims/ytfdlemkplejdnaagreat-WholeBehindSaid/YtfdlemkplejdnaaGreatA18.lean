/- WholeBehind, part 18. Conditions: none. -/
import Derived.Test.YtfdlemkplejdnaaGreatA6
import Derived.Test.YtfdlemkplejdnaaGreatA12
import Derived.Laws.Bits64b
import Derived.Sort.EveryDepth
namespace Go.Proofs.YtfdlemkplejdnaaGreat
open Go.RowKit Go.Sort
open Value renaming int->ι,pointer->ψ,slice->ζ,tuple->χ,agg->φ,map->μ,bool->β
open IntKind renaming u64->υ,i64->ε,u16->ω
open Ending renaming returned->ϰ
open Go.Proofs.Tryz renaming prog->Ψ,underlying3->Θ,underlying147->Δ,underlying152->Γ,underlying202->Φ,underlying39->Ξ,underlying207->Ω
open Go renaming World->ϖ,Value->ϗ
set_option linter.unusedVariables false
set_option linter.unusedSimpArgs false
set_option maxHeartbeats 8000000
set_option maxRecDepth 100000
theorem Ft (x:Int)(w:ϖ)(h:0<=x/\x<=49):Calls Ψ 148 #[ι υ x] w λe w'=>∃k:Nat,e=ϰ (ι ε k)/\k<=6/\w=w':=by refine Calls.mono (calls_of_every_depth λD=>AnyS.bits_LenIn {iu with} D x w h.1 ρa) ?_;rintro e w' ⟨rfl,rfl⟩;refine⟨_,rfl,?_,rfl⟩;rw[bitLen_eq _ ρa,bitsLen_le_iff];omega
theorem GL (n:Nat)(w:ϖ)(h:1<=n/\n<=49):Calls Ψ 243 #[ι ε n] w λe w'=>∃M:Nat,e=ϰ (ι υ M)/\(1<=M/\M<=2*n)/\w=w':=by
 refine Calls.mono (calls_of_every_depth λD=>AnyS.nextPowerOfTwoIn {iu with} D n ρa w) ?_;rintro e w' ⟨rfl,rfl⟩;refine⟨_,rfl,?_,rfl⟩;rw[Nat.shiftLeft_eq,Nat.one_mul];have h1:¬bitsLen n<=bitsLen n - 1:=by
  have:bitsLen n≠0:=by unfold bitsLen;rw[ZI ρa];omega
  omega
 rw[bitsLen_le_iff] at h1;have h2:2 ^ bitsLen n=2*2 ^ (bitsLen n - 1):=by
  have:bitsLen n≠0:=by unfold bitsLen;rw[ZI ρa];omega
  rw[<- Nat.pow_succ'];congr 1;omega
 have h3:=Nat.two_pow_pos (bitsLen n);omega
theorem Fw (R X:Nat)(w:ϖ)(hX:X<Mf)(B:ah w R #[ι υ X] 359):Calls Ψ 244 #[R] w λe w'=>∃Y:Nat,e=ϰ (ι υ Y)/\Y<Mf/\ah w' R #[ι υ Y] 359/\KO (λx=>x=R) w w':=by have rB:=B.r;refine Calls.mono (calls_of_every_depth λD=>AnyS.xorshift_NextIn {iu with} D R 0 X hX w (rB.1 0) (rB.2.1 0)) ?_;rintro e w' ⟨rfl,rfl⟩;exact⟨_,rfl,xorNextN_lt X hX,ρB,ρK⟩
theorem Dx (g N n IM:Nat)(a b:Nat)(w:ϖ)(U:US w g N)(hn:n<=N/\n<=49)(IK:a+13<=b)(hb:b<=n):Calls Ψ 280 #[tu g n IM,ι ε a,ι ε b] w λe w'=>e=ϰ (χ #[])/\US w' g N/\KO (λx=>x=g) w w':=by
 obtain⟨l,hl⟩:∃l:Nat,(b:Int) - (a:Int)=l:=⟨b - a,by omega⟩;obtain⟨q,hq⟩:∃q:Nat,(l:Int) / 4=q:=⟨l / 4,by omega⟩;obtain⟨i0,ph⟩:∃x:Nat,(a:Int)+q*2 - 1=x:=⟨a+q*2 - 1,by omega⟩;obtain⟨i3,hi3⟩:∃x:Nat,(a:Int)+q*2+1=x:=⟨a+q*2+1,by omega⟩;have d1:=dt (8<=(l:Int));have zU:=(by obtain⟨f,h⟩:=U;exact h.size:g<w);have hwl:IntKind.u64.wrap (l:Int)=(l:Int):=ZZ _ ⟨by omega,by omega⟩;go_in;go_wp2_with fail;refine av w (λv=>Below w w v) (λv=>Below w w v/\US v g N/\ah v w #[ι υ l] 359) ρE (λkx=>⟨kx,US.below U kx,ρB⟩) ?_;rintro v1 ⟨k1,U1,B1⟩;have z1:=k1.size;have zB:=B1.size;obtain⟨R,hR⟩:=Nq w.heap.size;rw[hR] at B1 zB zU ⊢;have gR:g≠R:=ρa;refine(GL l v1 ρa).mono ?_;rintro e u ⟨M,rfl,hM,rfl⟩;obtain⟨m,hm⟩:∃m:Nat,(M:Int) - 1=m:=⟨M - 1,by omega⟩;go_wp2_with fail;go_loopw [9] (λt wr=>∃i:Nat,t=ι ε i/\(i0<=i/\i<=i0+3)/\US wr g N/\(∃X:Nat,X<Mf/\ah wr R #[ι υ X] 359)/\KO (λx=>x=g) w wr) (λt _=>i0+3 - (intOf t).toNat);case atStart=>exact⟨i0,rfl,by omega,U1.below ρE,⟨l,by omega,B1.below ρE B1.size⟩,(KO.of_below k1).step0 ρE⟩
 case round=>
  obtain⟨i,rfl,hi,UZ,⟨X,hX,B0⟩,IB⟩:=hrel;by_cases c1:i<=i3
  rotate_left
  ·have d2:=ZF c1;exact ξJ
  have d2:=ZT c1;go_wp2_with fail;refine av wr (λv=>Below wr wr v) (λv=>KO (λx=>x=g) w v/\US v g N/\ah v R #[ι υ X] 359) ρE (λkx=>⟨IB.step0 kx,US.below UZ kx,B0.below kx B0.size⟩) ?_;rintro v3 ⟨ID,U3,B3⟩;refine(Fw R X v3 hX B3).mono ?_;rintro e v4 ⟨Y,rfl,hY,B4,k4⟩;have U4:US v4 g N:=by obtain⟨f,h⟩:=U3;exact⟨f,h.ko k4 gR⟩
  have IC:KO (λx=>x=g) w v4:=ID.trans k4 (λx hx e=>ax e ρa);obtain⟨O,hO⟩:∃O:Nat,Y &&& m=O:=⟨_,rfl⟩;have hOm:O<=m:=hO ▸ Nat.and_le_right;have IW:bits .and .u64 (Y:Int) (m:Int)=(O:Int):=by rw[Go.bits_and_u64_nat Y m hY ρa,hO]
  have Yn:IntKind.i64.wrap (O:Int)=(O:Int):=IntWalk.i64_in _ ⟨by omega,by omega⟩;clear hO;obtain⟨f,U5⟩:=U4;by_cases c3:l<=O
  ·have d3:=ZT c3;obtain⟨Z,hZ⟩:∃Z:Nat,(O:Int) - (l:Int)=Z:=⟨O - l,by omega⟩;have bq:((a:Int)+(Z:Nat)).toNat=a+Z:=ρa;have I':=U5.cell (i:=i) ρa;have Jz:=U5.cell (i:=a+Z) ρa;have JD:=U5.size;have QK:=U5.frozen i;have QL:=U5.frozen (a+Z);have nz:i=a+Z\/i≠a+Z:=ρa;rcases nz with nz|nz
   ·subst nz;go_wp2_with fail;go_region
    all_goals
     go_wp2;go_roundw;case rel=>exact⟨a+Z+1,by first|rfl|(congr 1;omega)|go_num,by omega,σe,⟨Y,hY,ρB⟩,IC.trans (G:=λx=>x=g) ρK (λ_ _ e=>e)⟩
     case measure=>exact ξe
   ·exact ξ4
  ·have d3:=ZF c3;have bq:((a:Int)+(O:Nat)).toNat=a+O:=ρa;have I':=U5.cell (i:=i) ρa;have Jz:=U5.cell (i:=a+O) ρa;have JD:=U5.size;have QK:=U5.frozen i;have QL:=U5.frozen (a+O);have nz:i=a+O\/i≠a+O:=ρa;rcases nz with nz|nz
   ·subst nz;go_wp2_with fail;go_region
    all_goals
     go_wp2;go_roundw;case rel=>exact⟨a+O+1,by first|rfl|(congr 1;omega)|go_num,by omega,σe,⟨Y,hY,ρB⟩,IC.trans (G:=λx=>x=g) ρK (λ_ _ e=>e)⟩
     case measure=>exact ξe
   ·exact ξ4
theorem GK (g N n IM:Nat)(hn:n<=N/\n<=49):∀(d a b lim:Nat)(w:ϖ),US w g N->b - a<d->a<=b->b<=n->lim<=1000->Calls Ψ 265 #[tu g n IM,ι ε a,ι ε b,ι ε lim] w λe w'=>e=ϰ (χ #[])/\US w' g N/\KO (λx=>x=g) w w':=by
 intro d
 induction d with
 | zero=>intro a b lim w U hd;omega
 | succ d ih=>
 intro a b lim w U hd IK XP hlm;replace ih:=ag ih;go_in;go_wp2_with fail;go_loopw [1,2,3,8,9] (λta tb tl tx ty wr=>∃(a' b' l':Nat) (x y:Bool),ta=ι ε a'/\tb=ι ε b'/\tl=ι ε l'/\tx=β x/\ty=β y/\(a<=a'/\a'<=b'/\b'<=b/\l'<=lim)/\US wr g N/\KO (λx=>x=g) w wr) (λta tb _ _ _ _=>(intOf tb).toNat - (intOf ta).toNat);case atStart=>exact⟨a,b,lim,true,true,rfl,rfl,rfl,rfl,rfl,⟨by omega,IK,by omega,by omega⟩,U,KO.refl _ _⟩
 case round=>
  obtain⟨a',b',l',x,y,rfl,rfl,rfl,rfl,rfl,hr,U0,IB⟩:=hrel;obtain⟨l,hl⟩:∃l:Nat,(b':Int) - (a':Int)=l:=⟨b' - a',by omega⟩;by_cases c1:l<=12
  ·have d1:=ZT c1;have d1':=dt ((l:Int)<=12);go_wp2_with fail;refine(GH g N n IM a' b' wr U0 hn ρa ρa).mono ?_;exact ξ7
  have d1:=ZF c1;have d1':=df ((l:Int)<=12);by_cases c2:l'=0
  ·subst c2;go_wp2_with fail;refine(Fs g N n IM a' b' wr U0 hn ρa ρa).mono ?_;exact ξ7
  have d2:=df ((l':Int)=0);have Vc:((l':Int)==0)=false:=ρ7;have d2'':(l'==0)=false:=ZN.2 c2;have d2n:=ZF c2;go_upto_if 35 with fail;go_cut [3] from 36 to 41 (λt wx=>∃l2:Nat,t=ι ε l2/\l2<=l'/\US wx g N/\KO (λx=>x=g) w wx);case first=>
   cases x with
   | true=>go_wp2;go_meet;exact⟨l',rfl,ZR _,U0.below ρE,IB.step0 ρE⟩
   | false=>go_wp2_with fail;refine(Dx g N n IM a' b' wr U0 hn ρa ρa).mono ?_;rintro e v ⟨rfl,U1,k1⟩;go_wp2;go_meet;exact⟨l' - 1,by first | rfl | (congr 1;omega) | go_num,by omega,U1.below ρE,(IB.trans k1 (λ_ _ e=>e)).step0 ρE⟩
  case rest=>
   obtain⟨l2,rfl,Oj,U1,k1⟩:=hcut
   rename ϖ=>V1
   clear U0 IB d2 Vc d2'' d2n;go_wp2_with fail;refine(DD g N n IM a' b' V1 U1 hn ρa ρa).mono ?_;rintro e V2 ⟨j,h,rfl,hj,hh,kx⟩;obtain⟨U2,k2⟩:=Mw kx (θ2 U1 k1);clear U1 k1 kx;have e2:(h==2)=false:=ρ7;go_upto_region 15 with fail;go_cut [68] from 61 to 67 (λt wx=>∃z:Bool,t=β z/\US wx g N/\KO (λx=>x=g) w wx);case first=>
    cases x<;>cases y<;>(rcases hh with rfl|rfl)<;>(go_wp2_with fail)<;>go_meet
    all_goals exact⟨_,rfl,U2.below ρE,k2.step0 ρE⟩
   case rest=>
    obtain⟨z,rfl,U2',k2'⟩:=hcut
    rename ϖ=>V2'
    clear U2 k2;go_upto_if 68 with fail;go_cut [] from 69 to 72 (λwx=>US wx g N/\KO (λx=>x=g) w wx);case first=>
     cases z with
     | false=>go_wp2;go_meet;exact⟨U2'.below ρE,k2'.step0 ρE⟩
     | true=>
      go_wp2_with fail;refine(yq g N n IM a' b' V2' U2' hn ρa ρa).mono ?_;rintro e V3 ⟨r,rfl,U3,k3⟩;cases r with
      | false=>go_wp2;go_meet;exact⟨U3.below ρE,(k2'.trans k3 (λ_ _ e=>e)).step0 ρE⟩
      | true=>go_wp2_with fail;(first | go_end0 | ((try simp only[Exit.inBlock,Exit.then]);refine ZO (results_none rfl _ _ _) rfl ?_));exact⟨rfl,U3.below ρE,(k2'.trans k3 (λ_ _ e=>e)).step0 ρE⟩
    case rest=>
    obtain⟨⟨f,U0⟩,IB⟩:=hcut
    rename ϖ=>V3
    clear U2' k2';go_upto_region 17 with fail;go_cut [87] from 73 to 86 (λt wx=>∃z:Bool,t=β z/\(z=true->0<a')/\US wx g N/\KO (λx=>x=g) w wx);case first=>
     by_cases c5:0<a'
     rotate_left
     ·have d5:=ZF c5;have d5':=df (0<(a':Int));have I':=U0.size;go_wp2_with fail;refine δk ?_;clear I';intro v1 F' U1 I' JN
      repeat (go_big_quiet_step ((first
        | (go_at_call 226;(with_reducible exact an (bY _ _ _))))))
      refine Zq (θ2 U1 F') ?_;rintro v2 ⟨U2,Iz⟩;replace I':=U2.size;clear JN U1;go_wp2;go_meet;exact⟨false,rfl,(λh=>by cases h),U2.us.below ρE,Iz.step0 ρE⟩
     have d5:=ZT c5;have d5':=dt (0<(a':Int));obtain⟨q,hq⟩:∃q:Nat,(a':Int) - 1=q:=⟨a' - 1,by omega⟩;have I':=(U0.cell (i:=q) ρa);have Jz:=(U0.cell (i:=j) ρa);have JD:=U0.size;go_wp2_with fail;refine Zw (θ2 IB U0) ?_;rintro v1 ⟨F',U1⟩;replace I':=(U1.cell (i:=q) ρa);replace Jz:=(U1.cell (i:=j) ρa);replace JD:=U1.size;have JN:=λd os=>((U1.below (ZW _ d os)).cell (i:=q) ρa);have Lg:=λd os=>((U1.below (ZW _ d os)).cell (i:=j) ρa);refine δm ?_;intro KT
     repeat (go_big_quiet_step ((first
       | (go_at_call 226;(with_reducible exact an (bY _ _ _))))))
     refine Zq (θ2 U1 F') ?_;rintro v2 ⟨U2,Iz⟩;replace I':=(U2.cell (i:=q) ρa);replace Jz:=(U2.cell (i:=j) ρa);replace JD:=U2.size;clear JN Lg KT U1;go_wp2;go_meet;exact⟨_,rfl,λ_=>c5,U2.us.below ρE,Iz.step0 ρE⟩
    case rest=>
     obtain⟨z,rfl,hz,US3,ID⟩:=hcut
     rename ϖ=>v3
     clear U0 IB;go_upto_if 87 with fail;go_cut [1] from 88 to 93 (λt wx=>t=ι ε a'/\US wx g N/\KO (λx=>x=g) w wx);case first=>
      cases z with
      | false=>go_wp2;go_meet;exact⟨rfl,US3.below ρE,ID.step0 ρE⟩
      | true=>
       have hz:=hz rfl;go_wp2_with fail;refine(DC g N n IM a' b' j v3 US3 hn ρa ρa).mono ?_;rintro e v4 ⟨m,rfl,hm1,Wm,U4,k4⟩;go_wp2;go_roundw;case rel=>exact⟨m,b',l2,x,y,rfl,rfl,rfl,rfl,rfl,⟨by omega,by omega,by omega,by omega⟩,U4.below ρE,(ID.trans k4 (λ_ _ e=>e)).step0 ρE⟩
       case measure=>exact ξe
     case rest=>
     obtain⟨rfl,U4,k4⟩:=hcut
     rename ϖ=>V4
     clear US3 ID;go_wp2_with fail;refine(Fx g N n IM a' b' j V4 U4 hn ρa ρa).mono ?_;rintro e V5 ⟨m,r,rfl,hm1,Wm,U5,k5⟩;have IN:=k4.trans k5 (λ_ _ e=>e);clear U4 k4 k5;obtain⟨L,hL⟩:∃L:Nat,(m:Int) - (a':Int)=L:=⟨m - a',by omega⟩;obtain⟨R,hR⟩:∃R:Nat,(b':Int) - (m:Int)=R:=⟨b' - m,by omega⟩;obtain⟨q8,hq8⟩:∃q:Nat,(l:Int) / 8=q:=⟨l / 8,by omega⟩;by_cases c7:L<R
     ·have d7:=ZT c7;go_wp2_with fail;refine(ih.out a' m l2 V5 U5 ρa ρa ρa ρa).mono ?_;rintro e V6 ⟨rfl,U6,k6⟩;go_wp2;go_roundw;case rel=>exact⟨m+1,b',l2,_,r,by first|rfl|(congr 1;omega)|go_num,rfl,rfl,rfl,rfl,⟨by omega,by omega,by omega,by omega⟩,U6.below ρE,(IN.trans k6 (λ_ _ e=>e)).step0 ρE⟩
      case measure=>exact ξe
     ·have d7:=ZF c7;obtain⟨m1,hm3⟩:∃x:Nat,(m:Int)+1=x:=⟨m+1,by omega⟩;go_wp2_with fail;refine(ih.out m1 b' l2 V5 U5 ρa ρa ρa ρa).mono ?_;rintro e V6 ⟨rfl,U6,k6⟩;go_wp2;go_roundw;case rel=>exact⟨a',m,l2,_,r,rfl,rfl,rfl,rfl,rfl,⟨by omega,by omega,by omega,by omega⟩,U6.below ρE,(IN.trans k6 (λ_ _ e=>e)).step0 ρE⟩
      case measure=>exact ξe
end Go.Proofs.YtfdlemkplejdnaaGreat
