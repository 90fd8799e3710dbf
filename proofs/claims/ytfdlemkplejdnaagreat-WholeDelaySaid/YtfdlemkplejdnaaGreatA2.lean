/- WholeDelay, part 2. Conditions: none. -/
import Derived.Test.YtfdlemkplejdnaaGreatA1
import Derived.LoopN
import Derived.Deep.RegionWith
import Derived.Deep.RegionHeldLaw
import Derived.Deep.CutBlock
import Derived.Shelf.Abstract
import Derived.IntWalk
namespace Go.Proofs.YtfdlemkplejdnaaGreat
open Go.RowKit Go.Sort
open Value renaming int->ι,pointer->ψ,slice->ζ,tuple->χ,agg->φ,map->μ,bool->β
open IntKind renaming u64->υ,i64->ε,u16->ω
open Ending renaming returned->ϰ
open Go.Proofs.Tryz renaming prog->Ψ,underlying3->Θ,underlying147->Δ,underlying152->Γ,underlying202->Φ,underlying39->Ξ,underlying207->Ω
open Go renaming World->ϖ,Value->ϗ
set_option linter.unusedVariables false
set_option linter.unusedSimpArgs false
set_option maxHeartbeats 8000000
set_option maxRecDepth 100000
theorem ξa {p:Prop} (h:p:=by
 refine aW w (λv=>KO (λx=>x=g) w v/\US v g N) (λv=>KO (λx=>x=g) w v/\US v g N) ⟨ρK,ρZ⟩ (λkx=>kx) ?_;rintro W ⟨kW,VN⟩;clear J2 Ku Kx Ry Rz U0;go_wp2_with fail;go_loopw [9,10] (λt u wr=>∃i j:Nat,t=ι ε i/\u=ι ε j/\(a+1<=i/\i<=b)/\(a<=j/\j<b)/\US wr g N/\KO (λx=>x=g) w wr) (λt u _=>(intOf u+2 - intOf t).toNat);case atStart=>exact⟨a+1,b - 1,by first|rfl|(congr 1;omega)|go_num,by first|rfl|(congr 1;omega)|go_num,⟨by omega,by omega⟩,⟨by omega,by omega⟩,VN,kW⟩
 case round=>
  obtain⟨i,j,rfl,rfl,hi,hj,⟨f,U9⟩,k99⟩:=hrel;generalize wr=W at*;go_upto_block 2 with fail;go_cut [9] from 29 to 45 (λt wx=>∃i1:Nat,t=ι ε i1/\((a+1<=i1/\i1<=b)/\i<=i1)/\UR wx g N f/\KO (λx=>x=g) W wx);case first=>
   go_wp2_with fail;go_loopw [9] (λt wr=>∃i1:Nat,t=ι ε i1/\((a+1<=i1/\i1<=b)/\i<=i1)/\UR wr g N f/\KO (λx=>x=g) W wr) (λt _=>(j+1 - intOf t).toNat);case atStart=>exact⟨i,rfl,⟨hi,ZR _⟩,U9,KO.refl _ _⟩
   case round=>
    obtain⟨i1,rfl,hv,U0,JG⟩:=hrel;by_cases cg:i1<=j
    rotate_left
    ·have dg:=ZF cg;have J2:=U0.size;go_wp2_with fail;refine Zw (θ2 JG U0) ?_;rintro v1 ⟨I',U1⟩;replace J2:=U1.size;have KL:=λd os=>(U1.below (ZW _ d os)).size;refine Wq ?_
     repeat (go_big_quiet_step ((first
       | (go_at_call 226;(with_reducible exact an (bU _ _ _))))))
     refine Zq (θ2 U1 I') ?_;rintro v2 ⟨U2,JE⟩;replace J2:=U2.size;clear KL U1;go_wp2;go_meet;exact⟨i1,rfl,hv,U2,JE⟩
    have dg:=ZT cg;have J2:=(U0.cell (i:=a) ρa);have Ku:=(U0.cell (i:=i1) ρa);have Kx:=U0.size;go_wp2_with fail;refine Zw (θ2 JG U0) ?_;rintro v1 ⟨I',U1⟩;replace J2:=(U1.cell (i:=a) ρa);replace Ku:=(U1.cell (i:=i1) ρa);replace Kx:=U1.size;have KL:=λd os=>((U1.below (ZW _ d os)).cell (i:=a) ρa);have MA:=λd os=>((U1.below (ZW _ d os)).cell (i:=i1) ρa);have Mh:=λd os=>(U1.below (ZW _ d os)).size;refine Wq ?_
    repeat (go_big_quiet_step ((first
      | (go_at_call 226;(with_reducible exact an (bU _ _ _))))))
    refine Zq (θ2 U1 I') ?_;rintro v2 ⟨U2,JE⟩;replace J2:=(U2.cell (i:=a) ρa);replace Ku:=(U2.cell (i:=i1) ρa);replace Kx:=U2.size;clear KL MA Mh U1;by_cases cc:f a<f i1
    rotate_left
    ·have OO:=ZF cc;have Tc:=dt (f i1<=f a);have NB:(!decide (f a<f i1))=true:=by rw[OO];rfl
     go_wp2_with fail
     all_goals (first|(refine az (Eq.trans (NB).symm ?_:true=false) ρf;assumption)|skip)
     go_roundw;case rel=>exact⟨i1+1,by first|rfl|(congr 1;omega)|go_num,by omega,U2.below ρE,JE.step0 ρE⟩
     case measure=>first|(simp[intOf];done)|(simp[intOf];omega)
    have OO:=ZT cc;have Tc:=df (f i1<=f a);have NB:(!decide (f a<f i1))=false:=τ1;go_wp2_with fail
    all_goals (first|(refine az (Eq.trans (NB).symm ?_:false=true) ρf;assumption)|skip)
    go_meet;exact⟨i1,rfl,hv,U2,JE⟩
  case rest=>
   obtain⟨i1,rfl,hi1,U8,Wk⟩:=hcut;clear hi;go_upto_block 4 with fail;go_cut [10] from 46 to 61 (λt wx=>∃j1:Nat,t=ι ε j1/\((a<=j1/\j1<b)/\j1<=j)/\UR wx g N f/\KO (λx=>x=g) W wx);case first=>
    go_wp2_with fail;go_loopw [10] (λt wr=>∃j1:Nat,t=ι ε j1/\((a<=j1/\j1<b)/\j1<=j)/\UR wr g N f/\KO (λx=>x=g) W wr) (λt _=>(intOf t).toNat);case atStart=>exact⟨j,rfl,⟨hj,ZR _⟩,U8,Wk⟩
    case round=>
     obtain⟨j1,rfl,hv,U0,JG⟩:=hrel;by_cases cg:i1<=j1
     rotate_left
     ·have dg:=ZF cg;have J2:=U0.size;go_wp2_with fail;refine Zw (θ2 JG U0) ?_;rintro v1 ⟨I',U1⟩;replace J2:=U1.size;have KL:=λd os=>(U1.below (ZW _ d os)).size;refine Wq ?_
      repeat (go_big_quiet_step ((first
        | (go_at_call 226;(with_reducible exact an (bU _ _ _))))))
      refine Zq (θ2 U1 I') ?_;rintro v2 ⟨U2,JE⟩;replace J2:=U2.size;clear KL U1;go_wp2;go_meet;exact⟨j1,rfl,hv,U2,JE⟩
     have dg:=ZT cg;have J2:=(U0.cell (i:=a) ρa);have Ku:=(U0.cell (i:=j1) ρa);have Kx:=U0.size;go_wp2_with fail;refine Zw (θ2 JG U0) ?_;rintro v1 ⟨I',U1⟩;replace J2:=(U1.cell (i:=a) ρa);replace Ku:=(U1.cell (i:=j1) ρa);replace Kx:=U1.size;have KL:=λd os=>((U1.below (ZW _ d os)).cell (i:=a) ρa);have MA:=λd os=>((U1.below (ZW _ d os)).cell (i:=j1) ρa);have Mh:=λd os=>(U1.below (ZW _ d os)).size;refine Wq ?_
     repeat (go_big_quiet_step ((first
       | (go_at_call 226;(with_reducible exact an (bU _ _ _))))))
     refine Zq (θ2 U1 I') ?_;rintro v2 ⟨U2,JE⟩;replace J2:=(U2.cell (i:=a) ρa);replace Ku:=(U2.cell (i:=j1) ρa);replace Kx:=U2.size;clear KL MA Mh U1;by_cases cc:f a<f j1
     rotate_left
     ·have OO:=ZF cc;have Tc:=dt (f j1<=f a);have NB:(!decide (f a<f j1))=true:=by rw[OO];rfl
      go_wp2_with fail
      all_goals (first|(refine az (Eq.trans (NB).symm ?_:true=false) ρf;assumption)|skip)
      go_meet;exact⟨j1,rfl,hv,U2,JE⟩
     have OO:=ZT cc;have Tc:=df (f j1<=f a);have NB:(!decide (f a<f j1))=false:=τ1;go_wp2_with fail
     all_goals (first|(refine az (Eq.trans (NB).symm ?_:false=true) ρf;assumption)|skip)
     go_roundw;case rel=>exact⟨j1 - 1,by first|rfl|(congr 1;omega)|go_num,by omega,U2.below ρE,JE.step0 ρE⟩
     case measure=>first|(simp[intOf];done)|(simp[intOf];omega)
   case rest=>
    obtain⟨j1,rfl,hj1,U7,k77⟩:=hcut
    rename ϖ=>wz
    clear hj U8 Wk;have kz:=k99.trans k77 (λ_ _ e=>e);by_cases cx:j1<i1
    ·have dx:=ZT cx;go_wp2;go_ret;exact⟨i1,rfl,by omega,by omega,U7.us.below ρE,kz.step0 ρE⟩
    have dx:=ZF cx;have J2:=U7.cell (i:=i1) ρa;have Ku:=U7.cell (i:=j1) ρa;have Kx:=U7.size;have Ry:=U7.frozen i1;have Rz:=U7.frozen j1;have nz:i1=j1\/i1≠j1:=ρa;rcases nz with nz|nz
    ·subst nz;go_wp2_with fail;go_region
     all_goals
      go_wp2;go_roundw;case rel=>exact⟨i1+1,i1 - 1,by first|rfl|(congr 1;omega)|go_num,by first|rfl|(congr 1;omega)|go_num,⟨by omega,by omega⟩,⟨by omega,by omega⟩,ρq,kz.trans (G:=λx=>x=g) ρK (λ_ _ e=>e)⟩
      case measure=>first|(simp[intOf];done)|(simp[intOf];omega)
    ·go_wp2_with fail;go_region
     all_goals
      go_wp2;go_roundw;case rel=>exact⟨i1+1,j1 - 1,by first|rfl|(congr 1;omega)|go_num,by first|rfl|(congr 1;omega)|go_num,⟨by omega,by omega⟩,⟨by omega,by omega⟩,ρq,kz.trans (G:=λx=>x=g) ρK (λ_ _ e=>e)⟩
      case measure=>first|(simp[intOf];done)|(simp[intOf];omega)):p:=h
theorem ξb {p:Prop} (h:p:=by
 replace J2:=U2.cell (i:=first+r) ρa;replace Ku:=U2.cell (i:=first+(2*r+1)) ρa;go_wp2_with fail;refine Zw (θ2 JE U2) ?_;rintro v3 ⟨JI,U3⟩;replace J2:=(U3.cell (i:=first+r) ρa);replace Ku:=(U3.cell (i:=first+(2*r+1)) ρa);replace Kx:=U3.size;have KL:=λd os=>((U3.below (ZW _ d os)).cell (i:=first+r) ρa);have MA:=λd os=>((U3.below (ZW _ d os)).cell (i:=first+(2*r+1)) ρa);have Mh:=λd os=>(U3.below (ZW _ d os)).size;refine Wq ?_
 repeat (go_big_quiet_step ((first
   | (go_at_call 226;(with_reducible exact an (bU _ _ _))))))
 refine Zq (θ2 U3 JI) ?_;rintro v4 ⟨U4,JJ⟩;replace J2:=(U4.cell (i:=first+r) ρa);replace Ku:=(U4.cell (i:=first+(2*r+1)) ρa);replace Kx:=U4.size;clear KL MA Mh U3;by_cases c5:f (first+r)<f (first+(2*r+1))
 rotate_left
 ·have ZQ:=ZF c5;have ec5:=dt (f (first+(2*r+1))<=f (first+r));have nc5:(!decide (f (first+r)<f (first+(2*r+1))))=true:=by rw[ZQ];rfl
  go_wp2_with fail
  all_goals (first|(refine az (Eq.trans (nc5).symm ?_:true=false) ρf;assumption)|skip)
  (first|go_end0|((try simp only[Exit.inBlock,Exit.then]);refine ZO (results_none rfl _ _ _) rfl ?_));exact⟨rfl,U4.us,JJ⟩
 have ZQ:=ZT c5;have ec5:=df (f (first+(2*r+1))<=f (first+r));have nc5:(!decide (f (first+r)<f (first+(2*r+1))))=false:=by rw[ZQ];rfl
 have nq:first+r≠first+(2*r+1):=ρa;have Ry:=U4.frozen (first+r);have Rz:=U4.frozen (first+(2*r+1));go_wp2_with fail
 all_goals (first|(refine az (Eq.trans (nc5).symm ?_:false=true) ρf;assumption)|skip)
 go_region
 all_goals
  go_wp2;go_roundw;case rel=>exact⟨2*r+1,by first|rfl|(congr 1;omega),by omega,σz,JJ.trans (G:=λx=>x=g) ρK (λ_ _ e=>e)⟩
  case measure=>simp[intOf];omega):p:=h
theorem ξc {p:Prop} (h:p:=by have:=JO.out;simp[intOf] at*;omega):p:=h
theorem ξd {p:Prop} (h:p:=by
 go_upto_region 7 with (fail);refine aW v6 (λv=>Below v6 v6 v) (λv=>Below w w v/\aS 3 fu v B (ζ oa n oc) l/\ah v (w+1) #[ζ oa n oc] 115/\ah v w #[ι ε t] 3) ρE (λkx=>⟨(JT.step0 kx).toBelow,G6.below kx,L6.below kx L6.size,T6.below kx T6.size⟩) ?_;rintro v9 ⟨Km,G9,L9,T9⟩;clear cL fL zL cT fT zT;have cL:=L9.cell;have zL:=L9.size;have cT:=T9.cell;have zT:=T9.size;go_region_with (first|(go_at_call 188;refine(ER (ζ oa n oc) l _ B (G9.below ρE) hl hc).mono ?_;rintro e va ⟨s,rfl,hs,kx⟩;have kab:Below v9 v9 va:=Below.trans ρE (kx.mono ρp);have La:=L9.below kab L9.size;have Ta:=T9.below kab T9.size;have cTa:=Ta.cell;have zTa:=Ta.size;have QZ:0<=s/\s<=288230376151711744:=⟨hs.1,by have h9:(l.length:Int)<=49:=ρa;omega⟩)|(go_at_call 186;refine(zN s t 1 _ QZ ρa ρa).mono ?_;rintro e vb ⟨rfl,ky⟩;have kbc:Below va va vb:=Below.trans ρE (ky.mono ρp)))
 all_goals
  go_wp2;go_ret2;refine⟨_,_,rfl,((Km.trans (kab.mono Km.size)).trans (kbc.mono (ZK Km.size kab.size))).trans ρE,λe=>?_⟩;have h9:s=0:=by rw[e] at hs;simp at hs;omega
  rw[h9];unfold kS;simp):p:=h
theorem ξe {p:Prop} (h:p:=by first|(simp[intOf];done)|(simp[intOf];omega)):p:=h
theorem ξf {p:Prop} (h:p:=by
 have hr:g=v:=by have:=hv.out;simpa using this
 subst hr;have Rr:=S'.r;have JU:=((aj.c1 X').trans σl);have J0:=((aj.c3 X').trans σT);have Lt:=((aj.c59 X').trans σ2);unfold CB;go_in;go_wp2_with fail;refine bK (θ4 (Ks (λ_=>False) w) S' A' X') ?_;clear Rr;rintro v1 ⟨I',KC,Pj,KW⟩ Rr;replace JU:=((aj.c1 KW).trans σl);replace J0:=((aj.c3 KW).trans σT);replace Lt:=((aj.c59 KW).trans σ2);have q:=ae KC;have J8:=λd os=>((aj.c1 (KW.below (ZW _ d os))).trans σl);have Kq:=λd os=>((aj.c3 (KW.below (ZW _ d os))).trans σT);have ND:=λd os=>((aj.c59 (KW.below (ZW _ d os))).trans σ2);refine Wq ?_
 repeat (go_big_quiet_step ((first
   | (go_at_call 124;(with_reducible exact an (De s.A a.ON a.A a.O a.C o s.L i _ _ (Pj.below (ZW _ _ _)) Ra.out))))))
 refine bB (θ4 KC Pj KW I') ?_;clear Rr;rintro v2 ⟨LJ,PQ,K6,JE⟩ Rr;replace JU:=((aj.c1 K6).trans σl);replace J0:=((aj.c3 K6).trans σT);replace Lt:=((aj.c59 K6).trans σ2);clear q J8 Kq ND KC Pj KW;go_wp2;go_ret;exact⟨rfl,(JE.step0 ρE).toBelow⟩):p:=h
theorem ξg {p:Prop} (h:p:=by rintro e QM ⟨rfl,o22,H22,oe22,kx⟩;have R22:=R21.ko kx (λf=>f Vu);have PB22:=WE.ko kx (λf=>f nP21);have Ni:=PJ.trans kx (λx hx f=>by (try dsimp only at f);rw[ow21 x hx] at f;exact f);have z22:=kx.size;have nR22:=(oe22 _ R21.size).trans Vu;clear kx;have rR:=R22.r;have RX:=PB22.r;have nRP:¬w.heap.size=v4:=ρa;go_wp2_with fail;refine eD QM (λx=>x=w.heap.size) (λv=>ah v w #[ι ε i,p.id,ι ε p.len,ι ω p.h0,ι ω p.h1,ι ω p.h2,ι ω p.h3,β Oq] 253) ρB (λ_ kx=>kx) ?_;rintro v23 R23 kx;replace rR:=R23.r;refine ZO (v:=χ #[φ #[ι ε i,p.id,ι ε p.len,ι ω p.h0,ι ω p.h1,ι ω p.h2,ι ω p.h3,β Oq],fK]) τt rfl ?_;exact .inl ⟨i,Oq,p,r,c,xs,Lx.out ▸ Lw.out,by rw[<- SV.out.1];exact hc.out,by rw[<- SV.out.2.1];exact hq.out,by rw[<- SV.out.1];exact hu.out,rfl,o22,(H22.ko kx (λx e=>by (try dsimp only at e);rw[e];exact nR22)).same MP.out.symm,λx hx=>(oe22 x ρa).trans (ow21 x hx),Ni.trans kx σw⟩):p:=h
theorem ξh {p:Prop} (h:p:=by go_wp2_with fail;refine eD v1 (λx=>x=w.heap.size) (λv=>ah v w #[Kn,Kz,Ko] 82) ρB (λ_ kx=>kx) ?_;rintro v9 R9 k9;have KS:=R9.cell;refine ZO (v:=φ #[Kn,Kz,Ko]) σn rfl ?_;exact⟨_,_,_,_,1,rfl,λh=>az h ρf,I'.toBelow.trans (k9.below I'.size ρF)⟩):p:=h
theorem ξi {p:Prop} (h:p:=by
 have hs:=ag (show (if i.key.lt k then (1:Int) else 0)=1 from ZP JM);have H1:=ag (And.intro o2 hx);clear o1 o2 o3 o4 hx hi JM;have X:=R;go_wp2_with fail;refine bK (θ4 (Ks (λ_=>False) wr) A B X) ?_;clear Rr Ss;rintro v1 ⟨I',A1,B1,X1⟩ Rr;have q:=θ2 (ae A1) (ae B1);refine Wq ?_;refine nZ ?_;refine bB (θ4 A1 B1 X1 I') ?_;clear Rr;rintro v2 ⟨A2,B2,X2,JE⟩ Rr;clear q A1 B1 X1;go_wp2_with fail;go_wp2_with fail;refine bK (θ4 JE A2 B2 X2) ?_;clear Rr;rintro v3 ⟨JI,A3,B3,X3⟩ Rr;have q:=θ2 (ae A3) (ae B3);refine Wq ?_
 repeat (go_big_quiet_step ((first
   | (go_at_call 270;(with_reducible exact bZ (m9 b i m0 (PT.ptr l) (PT.ptr r) h0 n0 k 1 _ (B3.below (ZW _ _ _) B3.size) hs.out))))))
 refine bB (θ4 A3 B3 X3 JI) ?_;clear Rr;rintro v4 ⟨A4,B4,X4,JJ⟩ Rr;clear q A3 B3 X3;go_wp2_with fail;go_roundg r.sz;case measure=>rw[<- Yq.out];simp only[PT.sz];omega
 case rel=>exact⟨r,rfl,rfl,X4,A4,k0.trans JJ (λ_ _ f=>f),ag H1.out.1,ag H1.out.2⟩):p:=h
theorem ξj {p:Prop} (h:p:=by
 have hs:=ag (show (if i.key.lt k then (1:Int) else 0)=0 from ZI JM);have H1:=ag (And.intro o1 hx);clear o1 o2 o3 o4 hx hi JM;have X:=L;go_wp2_with fail;refine bK (θ4 (Ks (λ_=>False) wr) A B X) ?_;clear Rr Ss;rintro v1 ⟨I',A1,B1,X1⟩ Rr;have q:=θ2 (ae A1) (ae B1);refine Wq ?_;refine nZ ?_;refine bB (θ4 A1 B1 X1 I') ?_;clear Rr;rintro v2 ⟨A2,B2,X2,JE⟩ Rr;clear q A1 B1 X1;go_wp2_with fail;go_wp2_with fail;refine bK (θ4 JE A2 B2 X2) ?_;clear Rr;rintro v3 ⟨JI,A3,B3,X3⟩ Rr;have q:=θ2 (ae A3) (ae B3);refine Wq ?_
 repeat (go_big_quiet_step ((first
   | (go_at_call 270;(with_reducible exact bZ (m9 b i m0 (PT.ptr l) (PT.ptr r) h0 n0 k 0 _ (B3.below (ZW _ _ _) B3.size) hs.out))))))
 refine bB (θ4 A3 B3 X3 JI) ?_;clear Rr;rintro v4 ⟨A4,B4,X4,JJ⟩ Rr;clear q A3 B3 X3;go_wp2_with fail;go_roundg l.sz;case measure=>rw[<- Yq.out];simp only[PT.sz];omega
 case rel=>exact⟨l,rfl,rfl,X4,A4,k0.trans JJ (λ_ _ f=>f),ag H1.out.1,ag H1.out.2⟩):p:=h
theorem ξk {p:Prop} (h:p:=by
 go_wp2_with fail
 all_goals
  go_loopw [117] (λk wr=>k=Kz/\ah wr w #[ι ε T,ι ε Lm,ζ oa n oc] 26/\dv wr B (ζ oa n oc) Os/\aS 14 eI wr B1 (ζ (some ⟨ug0,XK,none⟩) mn sc) M/\ah wr W6 #[ζ ra rn rc,ζ ea en ec] 35/\ah wr W (fd c) 43/\aS 12 xF wr B4 (ζ ea en ec) L/\KO (λ_=>False) w wr) (λk _=>0);case atStart=>exact⟨rfl,ρB,G0.below ρE,M0.below ρE,ρB,ρB,E0.below ρE,JG.step0 ρE⟩
  case round=>
   obtain⟨rfl,S5,G5,M5,Y5,C5,E5,JP⟩:=hrel;have z5:=JP.size;clear S0 G0 M0 Y0 C0 E0 Z0 JG;replace Ss:=θ3 S5.r Y5.r C5.r;go_wp2;go_roundw;case rel=>exact⟨ua++[c],ur,by rw[ZL,uhq.out];go_num,by rw[PO.out];simp,ρB,G5.below ρE,E5.below ρE,ρB,M5.below ρE,JP.step0 ρE⟩
   case measure=>have:=QL.out;simp[intOf] at*;omega):p:=h
theorem ξl {p:Prop} (h:p:=by skip;go_wp2_with (first|(go_at_call 229;refine(aI _ _ _ _).mono ?_;rintro e w' ⟨rfl,rfl⟩)|(go_at_call 118;refine(bi id par false r0 r1 r2 l0 l1 l2 u0 u1 u2 pk by_ _ hr).mono ?_;refine bm ?_;intro w' f' JZ JY;have JQ:=A9.tr f';have rA:=JQ.r;clear f')|(go_at_call 105;refine(aN id par false r0 r1 r2 l0 l1 l2 u0 u1 u2 pk by_ _ hl).mono ?_;refine bm ?_;intro w' f' JZ JY;have JQ:=A9.tr f';have rA:=JQ.r;clear f')|(go_at_call 230;refine(aK id par false r0 r1 r2 l0 l1 l2 u0 u1 u2 pk by_ _ hu).mono ?_;refine bm ?_;intro w' f' JZ JY;have JQ:=A9.tr f';have rA:=JQ.r;clear f'));go_ret;exact⟨dS (by rw[gp,gz,gy,gr,gu,gl];simp[pC]),ρE⟩):p:=h
theorem ξm {p:Prop} (h:p:=by skip;go_wp2_with (first|(go_at_call 229;refine(aI _ _ _ _).mono ?_;rintro e w' ⟨rfl,rfl⟩)|(go_at_call 118;refine(bi id par true r0 r1 r2 l0 l1 l2 u0 u1 u2 pk by_ _ hr).mono ?_;refine bm ?_;intro w' f' JZ JY;have JQ:=A9.tr f';have rA:=JQ.r;clear f')|(go_at_call 105;refine(aN id par true r0 r1 r2 l0 l1 l2 u0 u1 u2 pk by_ _ hl).mono ?_;refine bm ?_;intro w' f' JZ JY;have JQ:=A9.tr f';have rA:=JQ.r;clear f')|(go_at_call 230;refine(aK id par true r0 r1 r2 l0 l1 l2 u0 u1 u2 pk by_ _ hu).mono ?_;refine bm ?_;intro w' f' JZ JY;have JQ:=A9.tr f';have rA:=JQ.r;clear f'));go_ret;exact⟨dS (by rw[gp,gz,gb,gr,gl,gu];simp[pC]),ρE⟩):p:=h
theorem ξn {p:Prop} (h:p:=by skip;go_wp2_with (first|(go_at_call 229;refine(aI _ _ _ _).mono ?_;rintro e w' ⟨rfl,rfl⟩)|(go_at_call 118;refine(bi id par true r0 r1 r2 l0 l1 l2 u0 u1 u2 pk by_ _ hr).mono ?_;refine bm ?_;intro w' f' JZ JY;have JQ:=A9.tr f';have rA:=JQ.r;clear f')|(go_at_call 105;refine(aN id par true r0 r1 r2 l0 l1 l2 u0 u1 u2 pk by_ _ hl).mono ?_;refine bm ?_;intro w' f' JZ JY;have JQ:=A9.tr f';have rA:=JQ.r;clear f')|(go_at_call 230;refine(aK id par true r0 r1 r2 l0 l1 l2 u0 u1 u2 pk by_ _ hu).mono ?_;refine bm ?_;intro w' f' JZ JY;have JQ:=A9.tr f';have rA:=JQ.r;clear f'));go_ret;exact⟨dS (by rw[gp,gz,gb,gr,gu,gl];simp[pC]),ρE⟩):p:=h
theorem ξo {p:Prop} (h:p:=by skip;go_wp2_with (first|(go_at_call 229;refine(aI _ _ _ _).mono ?_;rintro e w' ⟨rfl,rfl⟩)|(go_at_call 118;refine(bi id par false r0 r1 r2 l0 l1 l2 u0 u1 u2 pk by_ _ hr).mono ?_;refine bm ?_;intro w' f' JZ JY;have JQ:=A9.tr f';have rA:=JQ.r;clear f')|(go_at_call 105;refine(aN id par false r0 r1 r2 l0 l1 l2 u0 u1 u2 pk by_ _ hl).mono ?_;refine bm ?_;intro w' f' JZ JY;have JQ:=A9.tr f';have rA:=JQ.r;clear f')|(go_at_call 230;refine(aK id par false r0 r1 r2 l0 l1 l2 u0 u1 u2 pk by_ _ hu).mono ?_;refine bm ?_;intro w' f' JZ JY;have JQ:=A9.tr f';have rA:=JQ.r;clear f'));go_ret;exact⟨dS (by rw[gp,gz,gb,gr,gl];simp[pC]),ρE⟩):p:=h
theorem ξp {p:Prop} (h:p:=by skip;go_wp2_with (first|(go_at_call 229;refine(aI _ _ _ _).mono ?_;rintro e w' ⟨rfl,rfl⟩)|(go_at_call 118;refine(bi id par true r0 r1 r2 l0 l1 l2 u0 u1 u2 pk by_ _ hr).mono ?_;refine bm ?_;intro w' f' JZ JY;have JQ:=A9.tr f';have rA:=JQ.r;clear f')|(go_at_call 105;refine(aN id par true r0 r1 r2 l0 l1 l2 u0 u1 u2 pk by_ _ hl).mono ?_;refine bm ?_;intro w' f' JZ JY;have JQ:=A9.tr f';have rA:=JQ.r;clear f')|(go_at_call 230;refine(aK id par true r0 r1 r2 l0 l1 l2 u0 u1 u2 pk by_ _ hu).mono ?_;refine bm ?_;intro w' f' JZ JY;have JQ:=A9.tr f';have rA:=JQ.r;clear f'));go_ret;exact⟨dS (by rw[gp,gz,gy,gr];simp[pC]),ρE⟩):p:=h
theorem ξq {p:Prop} (h:p:=by obtain⟨PX,rfl,lX,g1,A1,R1,C1,N1,L1,X1⟩:=hcut;have J3:=g1.size;have Ss:=θ5 A1.r R1.r C1.r N1.r L1.r;have cX:=X1.cell;have fX:=X1.frozen;have zX:=X1.size;go_wp2_with fail;refine(lV a s u _ oa os Hu.out).mono ?_;rintro e w2 ⟨rfl,JR⟩;have R2:ah w2 (w+1) nA 236:=Zv JR;have X2:ah w2 (PX) (f8 s) 236:=Zv JR;have g2:=Tg w JR;have KN:=JR.size;(try simp at KN);clear JR;clear Ss;replace Rr:=R2.r;replace cX:=X2.cell;replace fX:=X2.frozen;replace zX:=X2.size;go_upto_region 4 with (fail);refine aH (λv=>Below w w v/\ah v (w+1) nA 236/\ah v (PX) (f8 u) 236) ⟨ρE,ρB,ρB⟩ ?_;rintro w3 ⟨g3,R3,X3⟩;have MU:=g3.size;replace Rr:=R3.r;replace cX:=X3.cell;replace fX:=X3.frozen;replace zX:=X3.size;go_wp2;exact Eb (w+1) (f8 u) 236 rfl τa):p:=h
theorem ξr {p:Prop} (h:p:=by change Hid _ at OU SE;go_wp2_with fail;refine bK (θ6 JE H2 LJ PB2 K6 Q2) ?_;clear Rr Ss;rintro v3 ⟨JI,H3,LP,Zi,K7,Q3⟩ Rr;replace JU:=(aj.c0 K7);replace J0:=((aj.c3 K7).trans σv);have NC:=ae LP;have RW:=ae Zi;have J8:=λd os=>(aj.c0 (K7.below (ZW _ d os)));have Kq:=λd os=>((aj.c3 (K7.below (ZW _ d os))).trans σv);refine Wq ?_;refine nZ ?_;refine bB (θ6 H3 LP Zi K7 Q3 JI) ?_;clear Rr;rintro v4 ⟨H4,N5,PB4,K8,Q4,JJ⟩ Rr;replace JU:=(aj.c0 K8);replace J0:=((aj.c3 K8).trans σv);clear NC RW J8 Kq H3 LP Zi K7 Q3;go_wp2;go_ret;exact⟨26,s0,rfl,by rw[SE.out];exact OU.out,(o.more w .no),H4.below ρE,NM,JJ.step0 ρE⟩):p:=h
theorem ξs {p:Prop} (h:p:=by
 have Uk:=@run_makeMap Ψ;go_in;go_wp2_with fail;refine(GW _).mono ?_;rintro e v1 ⟨rfl,T1,kx⟩;have z1:=T1.1.size;go_wp2;go_ret;refine⟨_,rfl,⟨λx=>w.heap.size<=x/\x<v1+2,⟨w,v1,.nil,[],ρB,bh.below T1 ρE,?_,by simp[PT.bare,AT.Ord,AT.items],λy=>by simp[PT.bare,AT.items],λj=>rfl,λj p h=>(by cases h),⟨by omega,by omega,by omega,λx hx=>by simp[PT.bs] at hx⟩,λx hx=>by simp;omega⟩,λx hx=>hx.1⟩,?_⟩
 ·exact(aB.made v1).alloc _
 ·exact Below.trans kx (Below.mono ρE kx.size)):p:=h
theorem ξt {p:Prop} (h:p:=by rintro e v5 ⟨rfl,QA5,kx⟩;have H5:=H4.entTo (x:=s0.e i) hc Tn.out Kc.out kx (λy f=>.inr (Ot.out y f)) ⟨K8.ko kx τc,ob,by unfold dT;rw[ZP PA.out];exact⟨Q,Pw,rfl,QA5,Ot.out⟩,ok.out⟩;rw[kp] at H5;have JP:=JJ.trans kx σG;clear kx;change Hid _ at OU SE;go_wp2;go_ret;exact⟨30,s0,rfl,by rw[SE.out];exact OU.out,(o.more w .no),H5.below ρE,NM,JP.step0 ρE⟩):p:=h
theorem ξu {p:Prop} (h:p:=by go_wp2_with fail;refine Zc JJ ?_;rintro v5 JP;refine(AL v5).mono ?_;rintro e v6 ⟨rfl,kx⟩;have JT:KO (λ_=>False) w v6:=JP.step0 kx;clear kx;go_wp2;go_ret;exact⟨rfl,JT.toBelow.trans ρE⟩):p:=h
theorem ξv {p:Prop} (h:p:=by
 by_cases JM:k<m
 ·go_wp2;go_round;case rel=>exact⟨k+1,by omega,by go_num,by rw[hs.out]⟩
  case measure=>simp[intOf];omega
 ·obtain rfl:k=m:=by omega
  go_wp2;go_ret;exact⟨rfl,ρE⟩):p:=h
theorem ξw {p:Prop} (h:p:=by go_in;go_wp2;go_ret;exact⟨rfl,rfl⟩):p:=h
theorem ξx {p:Prop} (h:p:=by replace Qe:=ag Qe;go_wp2_with (go_at_fn g;refine(hp x (by rw[JK.out];simp) _ (JG.step0 ρE).toBelow).mono ?_;rintro e v4 ⟨e0,kx⟩;rw[Qe.out] at e0;subst e0;have JJ:KO (λ_=>False) w v4:=JG.step0 (Below.trans ρE (kx.mono ρp));have H4:=af.below (af.below H0 ρE) kx);go_ret;exact⟨by rw[hi.out,iv,ZP Qe.out];rfl,(JJ.step0 ρE).toBelow⟩):p:=h
theorem ξy {p:Prop} (h:p:=by exact⟨a++[x],r,by rw[ZL,hq.out];go_num,by rw[JK.out];simp,by rw[hi.out,iv,Qe.out,ZI ρp,ZL,hq.out];rfl,af.below H4 ρE,JJ.step0 ρE⟩):p:=h
theorem ξz {p:Prop} (h:p:=by
 rcases nq with nq|nq
 ·subst nq;go_region
  all_goals
   go_wp2;go_meet;exact⟨ρq,ρK⟩
 ·go_region
  all_goals
   go_wp2;go_meet;exact⟨ρq,ρK⟩):p:=h
theorem ξA {p:Prop} (h:p:=by have hp:(0:Int)<2 ^ k:=Int.pow_pos ρa;exact⟨Int.ediv_nonneg r0.1 ρa,Int.le_trans (Int.ediv_le_self _ r0.1) r0.2⟩):p:=h
theorem ξB {p:Prop} (h:p:=by go_ret2;refine⟨_,rfl,?_,⟨KX.below ρE KX.size,⟨LB,PQ.below ρE,hA.out⟩,⟨_,Sg.below ρE,λj=>by rw[jb];show _=(if j=leaf then false else S.on j);split<;>simp[hO.out]⟩,⟨_,Ri.below ρE,by rw[UW];exact Wu.below ρE⟩,oB,oA,oO,oC⟩,JE.step0 ρE⟩;(first|rw[Nh,KA.out]|rw[KA.out]);exact af.below G2 ρE):p:=h
theorem ξC {p:Prop} (h:p:=by have JM:¬(q:Int)<(n:Int):=ρn;have hd:=ZF JM;change Hid _ at hi JO;clear JK;go_wp2;go_ret;exact⟨by rw[hi.out];rfl,(JG.step0 ρE).toBelow⟩):p:=h
theorem ξD {p:Prop} (h:p:=by have g:L 6=true:=ρg;have:=h.d6 g;simp[this]):p:=h
theorem ξE {p:Prop} (h:p:=by have KN:z=false:=τG;subst KN;replace hz:=ag hz;unfold CB;go_in;go_wp2;go_ret;exact⟨rfl,ρE⟩):p:=h
theorem ξF {p:Prop} (h:p:=by have g:L 10=true:=ρg;have:=h.d10 g;simp[this]):p:=h
theorem ξG {p:Prop} (h:p:=by rw[<- Yq.out];simp only[PT.sz];omega):p:=h
theorem ξH {p:Prop} (h:p:=by go_wp2_with fail;(first|go_end0|((try simp only[Exit.inBlock,Exit.then]);refine ZO (results_none rfl _ _ _) rfl ?_));exact⟨rfl,VM,JG⟩):p:=h
theorem ξI {p:Prop} (h:p:=by
 constructor
 ·intro h j;have:=hl j;rw[List.eq_nil_of_length_eq_zero h] at this;simp only[lk] at this;cases e:m j with
  | none=>rfl
  | some p=>rw[e] at this;cases this
 ·intro h;cases L with
  | nil=>rfl
  | cons p r=>have:=hl p.1;rw[h] at this;obtain⟨a,b⟩:=p;simp[lk] at this):p:=h
theorem ξJ {p:Prop} (h:p:=by have g:L 7=true:=ρg;have:=h.d7 g;simp[this]):p:=h
theorem ξK {p:Prop} (h:p:=by have g:L 8=true:=ρg;have:=h.d8 g;simp[this]):p:=h
theorem ξL {p:Prop} (h:p:=by have g:L 9=true:=ρg;have:=h.d9 g;simp[this]):p:=h
theorem ξM {p:Prop} (h:p:=by unfold CB;go_in;go_wp2_with (first|(go_at_call 229;refine(aI _ _ _ _).mono ?_;rintro e w' ⟨rfl,rfl⟩));go_ret;exact⟨rfl,ρE⟩):p:=h
theorem ξN {p:Prop} (h:p:=by unfold CB;go_in;go_wp2;go_ret;exact⟨rfl,ρE⟩):p:=h
theorem ξO {p:Prop} (h:p:=by
 have d2:(c.id !=x.id)=true:=by simp[c2]
 have hy2:Y=(ys++[c])++bS x true r:=τq;clear Tm;replace hy2:=ag hy2;go_wp2_with (refine aw Tryz.underlying27 dA rfl (λ_=>rfl) gF ρf ρf rfl (.tmp 33) (.tmp 35) rfl (w+1) (ζ ob ys.length oe) ys c v1 #[ι ε c.id,ι ε c.par,β c.lf,c.r0,c.r1,c.r2,c.l0,c.l1,c.l2,c.u0,c.u1,c.u2,ι ε c.pk,ι ε c.by_] rfl ρs ρs (H1.below ρE) ρB ρa ρJ ?_;intro o4 v4 H4 kx;replace kx:=kx.of_alloc;have C4:=C1.ko kx (af.notown H1 ρa);have G4:=G1.ko kx (λy hy=>af.notown H1 ρa);have X4:=X1.ko kx (λh=>az (af.own_ge H0 _ h.symm).2 ρa);have JJ:KO (λ_=>False) w v4:=I'.trans kx σt;have VF:=JJ.size;replace cC:=C4.cell;replace fC:=C4.frozen;replace zC:=C4.size;replace cX:=X4.cell;replace fX:=X4.frozen;replace zX:=X4.size);go_roundw;case rel=>exact⟨a++[c],r,true,ys++[c],by rw[ZL,hq.out];go_num,rfl,by rw[JK.out];simp,hy2.out,by simp;rw[hq.out];omega,af.below H4 ρE,ρB,G4.below ρE,JJ.step0 ρE⟩
 case measure=>exact ξc):p:=h
theorem ξP {p:Prop} (h:p:=by
 go_wp2_with (refine aw Tryz.underlying197 ei rfl (λ_=>rfl) ρI ρf ρf rfl (.tmp 21) (.tmp 24) rfl w (ζ ob os.length oe) os c.r1 v2 #[c.r1] rfl ρs ρs (H2.below ρE) ρB ρa ρJ ?_;intro o4 v4 H4 kx;replace kx:=kx.of_alloc;have G4:=G2.ko kx (λy hy=>af.notown H2 ρa);have X4:=X2.ko kx (λh=>af.ne_blk H2 X2 ρf h);have JJ:KO (λ_=>False) w v4:=JE.trans kx τ5;have VF:=JJ.size;replace cX:=X4.cell;replace fX:=X4.frozen;replace zX:=X4.size);go_roundw;case rel=>exact⟨a++[c],r,os++[c.r1],by rw[ZL,hq.out];go_num,by rw[JK.out];simp,by simp;rw[hq.out];omega,λe=>az e ρp,τ7,af.below H4 ρE,G4.below ρE,(JJ.step0 ρE).toBelow⟩
 case measure=>exact ξc):p:=h
theorem ξQ {p:Prop} (h:p:=by
 have JM:(q:Int)<(n:Int):=ρn;have hd:=ZT JM;have MS:xs[q]?=some x:=ρC;have JX:xs≠[]:=ρP;obtain⟨Us,NS,g0,e0,Kv,e1,_⟩:=af.at H0 (λ_=>rfl);have e1:=e1 JX;obtain⟨rfl,_,rfl⟩:=ZV e0;subst e1;obtain⟨cx,gx,bx⟩:=HI.cell H0 q x MS;have My:q<n:=ρa;change Hid _ at hi JK hq hn Kv JO;rcases Qe:p x with _|_
 ·replace Qe:=ag Qe;go_wp2_with (go_at_fn g;refine(hp x (by rw[JK.out];simp) _ (JG.step0 ρE).toBelow).mono ?_;rintro e v4 ⟨e0,kx⟩;rw[Qe.out] at e0;subst e0;have JJ:KO (λ_=>False) w v4:=JG.step0 (Below.trans ρE (kx.mono ρp));have H4:=af.below (af.below H0 ρE) kx);go_roundw;case rel=>exact ξy
  case measure=>exact ξc
 ·exact ξx):p:=h
theorem ξR {p:Prop} (h:p:=by
 refine bB (θ7 M7 X7 G7 Z7 Y7 T7 J7) ?_;clear Rr;rintro v8 ⟨M8,X8,G8,Z8,Y8,T8,Ka⟩ Rr;clear qM qX qZ qY qT M7 X7 G7 Z7 Y7 T7;go_wp2;go_roundw;case rel=>exact⟨a++[d],r,s2,mi,by rw[ZL,hq.out];go_num,by rw[JK.out];simp,rfl,by rw[ZL,hq.out];exact hsq.out,hMi,Tf.out,by rw[ZL,hq.out];exact hg.out,TZ.out,ρB,ρB,G8.below ρE,Ka.step0 ρE⟩
 case measure=>exact ξc):p:=h
theorem ξS {p:Prop} (h:p:=by
 change Hid _ at c2 Vn;go_wp2;go_roundw;case rel=>exact⟨a++[e],r,by rw[ZL,hq.out];go_num,by rw[JK.out];simp,by rw[hO2.out],ρB,G1.below ρE,M1.below ρE,ρB,ρB,Z1.below ρE,E1.below ρE,I'.step0 ρE⟩
 case measure=>exact ξc):p:=h
theorem ξT {p:Prop} (h:p:=by have g:L 1=true:=ρg;simpa using h.c1 g):p:=h
theorem ξU {p:Prop} (h:p:=by have g:L 2=true:=ρg;simpa using h.c2 g):p:=h
theorem ξV {p:Prop} (h:p:=by have g:L 3=true:=ρg;simpa using h.c3 g):p:=h
theorem ξW {p:Prop} (h:p:=by have g:L 5=true:=ρg;simpa using h.c5 g):p:=h
theorem ξX {p:Prop} (h:p:=by have g:L 0=true:=ρg;simpa using h.c0 g):p:=h
theorem ξY {p:Prop} (h:p:=by go_quiet (fail);go_wp2;go_ret;have da':=da.out;have db':=db.out;exact⟨Gc τQ,ρE⟩):p:=h
theorem ξZ {p:Prop} (h:p:=by have g:L 10=true:=ρg;simpa using h.c10 g):p:=h
theorem ξ0 {p:Prop} (h:p:=by
 go_wp2;go_roundw;case rel=>exact⟨ua++[c],ur,by rw[ZL,uhq.out];go_num,by rw[PO.out];simp,ρB,G3.below ρE,E3.below ρE,ρB,M3.below ρE,JI.step0 ρE⟩
 case measure=>have:=QL.out;simp[intOf] at*;omega):p:=h
theorem ξ1 {p:Prop} (h:p:=by
 go_wp2_with fail;go_region
 all_goals
  go_wp2;go_roundw;case rel=>exact⟨i+1,by first|rfl|(congr 1;omega)|go_num,by omega,σd,⟨Y,hY,ρB⟩,JJ.trans (G:=λx=>x=g) ρK (λ_ _ e=>e)⟩
  case measure=>exact ξe):p:=h
theorem ξ2 {p:Prop} (h:p:=by rw[PT.bal_bs] at hx;simp only[PT.bs,ZC,ZM] at hx ⊢;grind):p:=h
theorem ξ3 {p:Prop} (h:p:=by
 obtain⟨h1,h2,h3⟩:=h;obtain⟨k1,k2,k3⟩:=k;rcases h1 with h1|⟨j,q,hq,h1⟩<;>rcases k1 with k1|⟨j',q',SF,k1⟩
 ·omega
 ·have:=h3 j' q' SF;omega
 ·have:=k3 j q hq;omega
 ·have:=h3 j' q' SF;have:=k3 j q hq;omega):p:=h
theorem ξ4 {p:Prop} (h:p:=by rintro e v ⟨rfl,U1,k1⟩;go_wp2_with fail;(first|go_end0|((try simp only[Exit.inBlock,Exit.then]);refine ZO (results_none rfl _ _ _) rfl ?_));exact⟨rfl,U1.below ρE,(JG.trans k1 (λ_ _ e=>e)).step0 ρE⟩):p:=h
theorem ξ5 {p:Prop} (h:p:=by
 simp only[PT.bare,AT.items,ZM,ZC] at hy;rcases hy with hy|rfl|hy
 ·have:=o3 y hy;rw[hk] at this;exact az (aG.lt_trans this JM) (aG.lt_irrefl _)
 ·exact az hk hi
 ·exact⟨y,hy,hk⟩):p:=h
theorem ξ6 {p:Prop} (h:p:=by have g:L 4=true:=ρg;simpa using h.c4 g):p:=h
theorem ξ7 {p:Prop} (h:p:=by have g:L 7=true:=ρg;simpa using h.c7 g):p:=h
theorem ξ8 {p:Prop} (h:p:=by obtain⟨PX,rfl,lX,g1,A1,R1,C1,N1,L1,X1⟩:=hcut;have J3:=g1.size;have Ss:=θ5 A1.r R1.r C1.r N1.r L1.r;have cX:=X1.cell;have fX:=X1.frozen;have zX:=X1.size;go_wp2;exact Eb (w+1) (f8 s) 236 rfl τa):p:=h
theorem ξ9 {p:Prop} (h:p:=by
 exfalso;unfold SS.put at e;split at e
 ·cases e
 ·simp only[hn] at e;cases e):p:=h
theorem ηa {p:Prop} (h:p:=by obtain⟨ws,F,Qf⟩:=G.ws h;refine⟨ws,F,λv hv=>?_⟩;obtain⟨a,b,s1,e',s2,rfl,c1,c2,c3,c4⟩:=Qf v hv;exact⟨a,b,s1,e',s2++[e],by simp,c1,c2,c3,by rw[cG,bP,h2];simpa [bD] using c4⟩):p:=h
theorem ηb {p:Prop} (h:p:=by intro x hx h;simp only[PT.bs,ZC,ZM] at h ⊢;grind):p:=h
theorem ηc {p:Prop} (h:p:=by have l:=(am Tryz.underlying212 Θ h leaf (z:=φ #[Kz,Kz]) ρm).2;rw[hA leaf,ep,hc] at l;simp only[hs,hl,if_true,Option.getD_some,FH,hq] at l;exact l):p:=h
theorem ηd {p:Prop} (h:p:=by have l:=(am Tryz.underlying212 Θ h i (z:=φ #[Kz,Kz]) ρm).2;rw[hA i,ep,hd] at l;simp only[hsd,if_true,Option.getD_some,FH] at l;exact⟨_,l⟩):p:=h
theorem ηe {p:Prop} (h:p:=by
 go_roundw;case rel=>exact⟨a++[c],r,by rw[ZL,hq.out];go_num,by rw[JK.out];simp,by rw[hy2.out];exact af.below H6 ρE,G6.below ρE,JT.step0 ρE⟩
 case measure=>exact ξc):p:=h
theorem ηf {p:Prop} (h:p:=by
 simp only[];by_cases hj:j=i
 ·subst hj;simp
 ·simp[hj]):p:=h
theorem ηg {p:Prop} (h:p:=by
 simp only[PT.bare,AT.items,ZM,ZC] at hy;rcases hy with hy|rfl|hy
 ·exact⟨y,hy,hk⟩
 ·exact az hk hi
 ·have:=o4 y hy;rw[hk] at this;exact az this JM):p:=h
theorem ηh {p:Prop} (h:p:=by exact⟨[i],⟨c,hc,rfl,by show fc L c.par=none;rw[h0];exact h.nz⟩,by simp,by simp[pz],λs=>⟨rfl,c,hc,s,h0⟩,λy hy=>.inl (by simpa using hy),[],rfl,λy hy=>by simp at hy⟩):p:=h
theorem ηi {p:Prop} (h:p:=by
 split
 ·rename_i g;obtain⟨h1,h2,h3⟩:=Classical.choose_spec g;show x<Classical.choose g;rcases h1 with e|⟨j,q,hq,e⟩
  ·rw[e];exact hx
  ·rw[e];exact h j q hq
 ·exact hx):p:=h
theorem ηj {p:Prop} (h:p:=by have hm:=hn.1 h0;subst h0;have HM:=ag hm;clear hm hn;go_wp2;go_ret;exact⟨_,rfl,⟨.inl rfl,ZJ _,λj q hq=>by rw[HM.out] at hq;cases hq⟩,Below.refl _ _⟩):p:=h
theorem ηk {p:Prop} (h:p:=by rw[fl,Nr.out];unfold aO;split<;>first|rfl|(simp_all [gK];done)|(simp_all;done)):p:=h
theorem ηl {p:Prop} (h:p:=by go_in;go_wp2;go_ret;exact⟨⟨_,rfl⟩,LW ρE⟩):p:=h
theorem ηm {p:Prop} (h:p:=by obtain⟨_,_,rfl⟩:=G4.slice;have h1:=NJ.out;have h2:=JS.out;have h3:=VV.out;simp only[lenOf,ZL,uo,List.length_nil] at h2 ⊢;omega):p:=h
theorem ηn {p:Prop} (h:p:=by go_wp2;go_ret;exact⟨rfl,JE.toBelow.trans ρE⟩):p:=h
theorem ηo {p:Prop} (h:p:=by
 obtain rfl:z=false:=by rw[<- hz.out];exact ZF (λh=>by have h2:=h.2 c Le;omega)
 go_wp2;go_ret;exact⟨rfl,(I'.step0 ρE).toBelow⟩):p:=h
theorem ηp {p:Prop} (h:p:=by rcases a with ⟨⟨a1,a2⟩,⟨a3,a4⟩⟩;rcases b with ⟨⟨b1,b2⟩,⟨b3,b4⟩⟩;unfold better;split<;>(simp only[NoB,aG.lt,aG.mk.injEq] at*;omega)):p:=h
theorem ηq {p:Prop} (h:p:=by exfalso;have g:L 8=true:=ρg;have:=h.d8 g;simp[hi] at this):p:=h
theorem ηr {p:Prop} (h:p:=by exfalso;have g:L 9=true:=ρg;have:=h.d9 g;simp[hi] at this):p:=h
theorem ηs {p:Prop} (h:p:=by clear C1 R1;obtain⟨X,rfl,rfl,g2,R2,X2⟩:=hcut;have cX:=X2.cell;have Ss:=R2.r;have zX:=X2.size;go_wp2;exact Eb (w+1) (mG s) 232 rfl τV):p:=h
theorem ηt {p:Prop} (h:p:=by go_in;go_wp2_with fail;refine ZO (v:=χ #[Kn,dK]) τT rfl ?_;exact⟨none,0,0,1,rfl,λh=>az h ρf,ρE⟩):p:=h
theorem ηu {p:Prop} (h:p:=by refine⟨?_,hB.frozen _⟩;rw[hB.cell,Array.getElem?_eq_getElem ρa];rfl):p:=h
theorem ηv {p:Prop} (h:p:=by go_wp2;go_ret;exact⟨1,L,rfl,⟨Lv.below ρE Lv.size,Oi.below ρE,Kf⟩,λh=>az h ρa,λ_=>rfl,JJ.step0 ρE⟩):p:=h
theorem ηw {p:Prop} (h:p:=by unfold CB;go_in;go_wp2;go_ret;have ea':=ea.out;have eb':=eb.out;exact⟨dS (by unfold kS;rw[ZI ρa,ZI ρa]),by go_grown⟩):p:=h
theorem ηx {p:Prop} (h:p:=by exact h _ hb (λK u hK hu=>Below.setCells hK _ _ _ hu) (λb c s JX hbb=>ah.setCells_other JX _ _ _ hbb) (eq B _ _ _)):p:=h
theorem ηy {p:Prop} (h:p:=by have e1:r.b=(RN.start m d n 0 0).b:=h2.1;have e2:(u'.start m d n).b=(RN.start m d n 0 0).b:=(bG ..).1;rw[e2,<- e1];exact hb):p:=h
theorem ηz {p:Prop} (h:p:=by
 go_in;go_wp2
 all_goals first
  | (exfalso;omega)
  | (go_ret;exact⟨dS (by have:=Hr.out;first | omega | (split<;>omega)),ρE⟩)):p:=h
theorem ηA {p:Prop} (h:p:=by exact bF (w+1+1+1) (dD r.has r.D r.E r.p r.e r.t) 238 _ _ _ Tryz.results154 ρs Bv Tryz.underlying238 rfl ρh):p:=h
theorem ηB {p:Prop} (h:p:=by have g:L 8=true:=ρg;simpa using h.c8 g):p:=h
theorem ηC {p:Prop} (h:p:=by have g:L 9=true:=ρg;simpa using h.c9 g):p:=h
theorem ηD {p:Prop} (h:p:=by
 have:=eO (gN x false h.nd) c hc;rw[hf] at this;split at this
 ·cases this;exact .inl rfl
 ·exact .inr (fD this).1):p:=h
theorem ηE {p:Prop} (h:p:=by
 unfold fc at h;split at h
 ·rename_i e;cases h;exact⟨by simp,e.symm⟩
 ·exact⟨sA _ (ih h).1,(ih h).2⟩):p:=h
theorem ηF {p:Prop} (h:p:=by rintro e w' ⟨a,b,c,v,z',p',y',l',rfl,e1,e2,e3,e4,e5,e6,e7,e8,_,e9,P',_⟩;exact fin e1 (KZ ▸ e2) e3 e4 e5 e6 e7 e8 e9 τH):p:=h
theorem ηG {p:Prop} (h:p:=by exact⟨λi=>by unfold eC;rw[ZI ρf,oG,iP,h.fc];rfl,by unfold eC;rw[ZI ρf];exact mh x h.nd⟩):p:=h
theorem ηH {p:Prop} (h:p:=by exact bF (w+1) (dD r.has r.D r.E r.p r.e r.t) 238 _ _ _ Tryz.results219 ρs Bv Tryz.underlying238 rfl ρh):p:=h
theorem ηI {p:Prop} (h:p:=by unfold CB;go_in;go_wp2;go_ret;have ea':=ea.out;have eb':=eb.out;exact⟨dS (by unfold kS;rw[ZP ρa]),by go_grown⟩):p:=h
theorem ηJ {p:Prop} (h:p:=by unfold SS.duesTo SS.setE ax;simp only[];split<;>rename_i e<;>first|(rw[e];exact⟨rfl,rfl⟩)|exact⟨rfl,rfl⟩):p:=h
theorem ηK {p:Prop} (h:p:=by
 rcases h0 with ⟨_,_,_,rfl⟩|⟨_,rfl⟩
 ·exact fU.ok mO.nil ρp kK.nil hT Sp
 ·exact fU.ok K NN.nd C hT Sp):p:=h
theorem ηL {p:Prop} (h:p:=by exact .inl (ZD.1 (hP c hc).nd).2):p:=h
theorem ηM {p:Prop} (h:p:=by exact⟨a,b,h1,h2.ko (KO.of_below (F:=λ_=>False) k) (λ_ _ f=>f),λx hx=>(ho _ (h2.lt hx)).trans (h3 x hx)⟩):p:=h
theorem ηN {p:Prop} (h:p:=by have:=NT.out;simp[intOf] at*;omega):p:=h
theorem ηO {p:Prop} (h:p:=by generalize 1+max l.high r.high=H at*;generalize 1+l.many+r.many=M at*;have cb:=hb.cell;have zb:=hb.size;exact ξw):p:=h
theorem ηP {p:Prop} (h:p:=by go_wp2;go_ret;exact⟨rfl,ρE⟩):p:=h
theorem ηQ {p:Prop} (h:p:=by
 go_wp2;go_roundw;case rel=>exact⟨i+1,rfl,by omega,by omega,U2.us,JE⟩
 case measure=>exact ξe):p:=h
theorem ηR {p:Prop} (h:p:=by
 rcases hc with ⟨h1,h2,rfl⟩|⟨h1,h2,rfl⟩
 ·exact .inl ⟨n,h1,h2,rfl⟩
 ·exact .inr ⟨h2,rfl⟩):p:=h
theorem ηS {p:Prop} (h:p:=by
 rcases Nat.lt_or_ge x w with hl|hl
 ·rw[aV.more_lt hl];exact hf x hx
 ·exact aV.more_ge hl):p:=h
theorem ηT {p:Prop} (h:p:=by exact⟨0,Nat.zero_le _,rfl,by simp⟩):p:=h
theorem ηU {p:Prop} (h:p:=by have G:=H.gh i hi;rw[RK] at G;exact G.go (dF.2 ⟨he.1,he.2.1⟩) he.2.2.2.1 e1 e2 ρa ρa):p:=h
theorem ηV {p:Prop} (h:p:=by
 have:aO m id none=m:=funext λj=>by unfold aO;split<;>simp_all
 rw[this];exact H.below h2):p:=h
theorem ηW {p:Prop} (h:p:=by
 simp only[fc];by_cases e:i=c.id
 ·rw[ZP e,ZI ρa,ZP e]
 ·rw[ZI e,ZI e,ih]):p:=h
theorem ηX {G H:Prop} (h:H)(f:PLift H->G:=by
 intro Zz;have f1:qf id 1 65536=true:=ZT Ou;have f2:qf par 0 65536=true:=ZT Kt;have f3:(par==id)=false:=ZN.2 ρa;have i0:∀v,(Instr.index 350 (φ #[r0,r1,r2,l0,l1,l2,u0,u1,u2]) Kz).run Ψ v=.ok (φ (aJ r0 r1 r2)) v:=λ_=>by kernel_rfl
 have i1:∀v,(Instr.index 350 (φ #[r0,r1,r2,l0,l1,l2,u0,u1,u2]) Ko).run Ψ v=.ok (φ (aJ l0 l1 l2)) v:=λ_=>by kernel_rfl
 have i2:∀v,(Instr.index 350 (φ #[r0,r1,r2,l0,l1,l2,u0,u1,u2]) (ι ε 2)).run Ψ v=.ok (φ (aJ u0 u1 u2)) v:=λ_=>by kernel_rfl
 revert i2;revert i1;revert i0;revert f3;revert f2;revert f1;exact Zz.down):G:=f ⟨h⟩
theorem ηY {G H:Prop} (h:H)(f:PLift H->G:=by intro Zz;have g1:=Tg w JL;have J3:=JL.size;(try simp at J3);revert J3;revert g1;exact Zz.down):G:=f ⟨h⟩
theorem ηZ {G H:Prop} (h:H)(f:PLift H->G:=by intro Zz;have A1:ah w1 w #[Xa,(hi (Ya)),(lo (Ya)),Ma] 234:=ah.below OC JL OC.size;have B1:ah w1 (w+1) #[Xb,(hi (Yb)),(lo (Yb)),Mb] 234:=ah.below TJ JL TJ.size;have R1:ah w1 (w+1+1) f9 234:=ah.below TS JL TS.size;have g1:Below w w w1:=Px.trans (JL.mono Px.size);have J3:w.heap.size<=w1:=g1.size;have Rr:=θ3 A1.r B1.r R1.r;revert Rr;revert J3;revert g1;revert R1;revert B1;revert A1;exact Zz.down):G:=f ⟨h⟩
theorem η0 {G H:Prop} (h:H)(f:PLift H->G:=by
 intro Zz;have x0:∀(x y:ϗ) v,(Instr.index 370 (φ #[x,y]) Kz).run Ψ v=.ok x v:=λ_ _ _=>by kernel_rfl
 have x1:∀(x y:ϗ) v,(Instr.index 370 (φ #[x,y]) Ko).run Ψ v=.ok y v:=λ_ _ _=>by kernel_rfl
 revert x1;revert x0;exact Zz.down):G:=f ⟨h⟩
theorem η1 {G H:Prop} (h:H)(f:PLift H->G:=by intro Zz;have nm:(m==0)=false:=ZN.2 ρa;have nd:(d==0)=false:=ZN.2 ρa;revert nd;revert nm;exact Zz.down):G:=f ⟨h⟩
theorem η2 {G H:Prop} (h:H)(f:PLift H->G:=by intro Zz;refine aH (λv=>Below w w v/\ah v w #[Xa,(hi (Ya)),(lo (Ya)),Ma] 234/\ah v (w+1) #[Xb,(hi (Yb)),(lo (Yb)),Mb] 234/\ah v (w+1+1) f9 234) ⟨ρE,ρB,ρB,ρB⟩ ?_;rintro v1 ⟨Px,OC,TJ,TS⟩;have TH:=ae OC;have XF:=ae TJ;have XH:=ae TS;refine Wq ?_;revert XH;revert XF;revert TH;revert TS;revert TJ;revert OC;revert Px;revert v1;exact Zz.down):G:=f ⟨h⟩
theorem η3 {G H:Prop} (h:H)(f:PLift H->G:=by intro Zz;have YI:=aC B' M';have RR:=aC T'.1 M';have YJ:=dX B' T'.1 ρf;have RS:=aR.ne_map M' T'.2.1;have SK:=aR.ne_blk B' ρf T'.2.1;have zT:=T'.1.size;have zM:=M'.size;have zB:=B'.size;have zb:=T'.2.1.lt;revert zb;revert zB;revert zM;revert zT;revert SK;revert RS;revert YJ;revert RR;revert YI;exact Zz.down):G:=f ⟨h⟩
theorem η4 {G H:Prop} (h:H)(f:PLift H->G:=by intro Zz;have JM:¬(q:Int)<(n:Int):=ρn;have hd:=ZF JM;revert hd;revert JM;exact Zz.down):G:=f ⟨h⟩
theorem η5 {G H:Prop} (h:H)(f:PLift H->G:=by intro Zz;have JM:(q:Int)<(n:Int):=ρn;have hd:=ZT JM;revert hd;revert JM;exact Zz.down):G:=f ⟨h⟩
theorem η6 {G H:Prop} (h:H)(f:PLift H->G:=by intro Zz;have g2:=Tg w JR;have KN:=JR.size;(try simp at KN);revert KN;revert g2;exact Zz.down):G:=f ⟨h⟩
theorem η7 {G H:Prop} (h:H)(f:PLift H->G:=by intro Zz;refine(iT b.val a.val _ _ k1.out).mono ?_;rintro e w1 ⟨rfl,JL⟩;have A1:ah w1 w (f7 a.key.pos a.key.id a.val.pos a.val.id) 335:=Zv JL;have B1:ah w1 (w+1) (f7 b.key.pos b.key.id b.val.pos b.val.id) 335:=Zv JL;have R1:ah w1 (w+1+1) (f7 0 0 0 0) 335:=Zv JL;revert R1;revert B1;revert A1;revert JL;revert w1;exact Zz.down):G:=f ⟨h⟩
theorem η8 {G H:Prop} (h:H)(f:PLift H->G:=by intro Zz;refine(nW W Y x _ hW hY Hc.out).mono ?_;rintro e w1 ⟨rfl,JL⟩;have A1:ah w1 w #[X,(hi (Y)),(lo (Y)),M] 234:=Zv JL;have W1:ah w1 (w+1) (mG W) 232:=Zv JL;revert W1;revert A1;revert JL;revert w1;exact Zz.down):G:=f ⟨h⟩
theorem η9 {G H:Prop} (h:H)(f:PLift H->G:=by intro Zz;unfold Oper.wp execOp;simp only[ho,resolve,invoke,builtin,Sem.run_bind,Sem.run_pure,Result.andThen_ok,List.map_toArray,fV,List.map_nil,hs,hx,hr];exact Zz.down):G:=f ⟨h⟩
theorem δa {G H:Prop} (h:H)(f:PLift H->G:=by intro Zz;have zw:=JG.size;have JO:a.length+b.length=n:=ρy;obtain⟨q,hq⟩:=Nq a.length;revert hq;revert q;revert JO;revert zw;exact Zz.down):G:=f ⟨h⟩
theorem δb {G H:Prop} (h:H)(f:PLift H->G:=by intro Zz;have N:=F.num h.num h.inv (λy hy=>eQ P.up y hy);have O:YS.Ok0 {y with s:=s',ev:=y.ev++[⟨op,true,false,y.clk,0,i,p⟩]}:=⟨I,N,⟨by show SS.clk _<=_;rw[F.clk];exact ZJ _,h.clk.2⟩,by show 1<=SS.T _/\SS.T _<=_;rw[F.T];exact h.tt,h.til⟩;revert O;revert N;exact Zz.down):G:=f ⟨h⟩
theorem δc {G H:Prop} (h:H)(f:PLift H->G:=by intro Zz;have cR:∀v,aR v (r)->Calls Ψ 272 #[(r).ptr] v λe w'=>e=ϰ (ι ε H2)/\v=w':=λv h=>fz (r) H2 v h e2;have ca:∀v,aR v (a)->Calls Ψ 272 #[(a).ptr] v λe w'=>e=ϰ (ι ε G1)/\v=w':=λv h=>fz (a) G1 v h e3;revert ca;revert cR;exact Zz.down):G:=f ⟨h⟩
theorem δd {G H:Prop} (h:H)(f:PLift H->G:=by intro Zz;have nn:(n==0)=false:=ZN.2 ρa;have aX:=df (Md<m);have bV:=df (Md<n);revert bV;revert aX;revert nn;exact Zz.down):G:=f ⟨h⟩
theorem δe {G H:Prop} (h:H)(f:PLift H->G:=by intro Zz;refine(bQ l0 l1 l2 _ _ hl.1 hl.2.1 hl.2.2 rfl).mono ?_;rintro e w3 ⟨rfl,KJ⟩;have A3:=A2.tr KJ;have Pr:=NR.tr KJ;have g3:=Tg w KJ;have MU:=KJ.size;(try simp at MU);clear KJ;replace Rr:=θ2 A3.r Pr.r;revert Rr;revert MU;revert g3;revert Pr;revert A3;revert w3;exact Zz.down):G:=f ⟨h⟩
theorem δf {G H:Prop} (h:H)(f:PLift H->G:=by intro Zz;obtain⟨n,hn⟩:=Nq L.length;rw[hn] at G hl ⊢;have zB:B<=w:=ρv;revert zB;revert hl;revert G;revert hn;revert n;exact Zz.down):G:=f ⟨h⟩
theorem δg {G H:Prop} (h:H)(f:PLift H->G:=by intro Zz;refine jf (θ3 JG S0 G0) (λv=>ah v wr #[ι ε c.k,(ζ ca c.ch.length cc),(ζ rb c.rl.length rc),c.pk.id,ι ε c.pk.len,ι ω c.pk.h0,ι ω c.pk.h1,ι ω c.pk.h2,ι ω c.pk.h3,c.tk] 80) ρB ?_;exact Zz.down):G:=f ⟨h⟩
theorem δh {G H:Prop} (h:H)(f:PLift H->G:=by intro Zz;rintro e w1 ⟨rfl,JL⟩;have C1:ah w1 w (aJ m d n) 41:=Zv JL;revert C1;revert JL;revert w1;exact Zz.down):G:=f ⟨h⟩
theorem δi {G H:Prop} (h:H)(f:PLift H->G:=by intro Zz;refine Zw (θ2 JG U0) ?_;rintro v1 ⟨I',U1⟩;replace J2:=U1.size;have KL:=λd os=>(U1.below (ZW _ d os)).size;refine Wq ?_;revert KL;revert J2;revert U1;revert I';revert v1;exact Zz.down):G:=f ⟨h⟩
theorem δj {G H:Prop} (h:H)(f:PLift H->G:=by intro Zz;rintro v1 A1 ⟨I',B1,L1,R1⟩;replace cB:=B1.cell;replace fB:=B1.frozen;replace zB:=B1.size;replace cA:=A1.cell;replace fA:=A1.frozen;replace zA:=A1.size;have qB:=ae B1;have qA:=ae A1;refine Wq ?_;refine nZ ?_;refine Zq (θ5 B1 L1 R1 A1 I') ?_;rintro v2 ⟨B2,L2,R2,A2,JE⟩;replace cB:=B2.cell;replace fB:=B2.frozen;replace zB:=B2.size;replace cA:=A2.cell;replace fA:=A2.frozen;replace zA:=A2.size;clear qB qA B1 L1 R1 A1;revert zA;revert fA;revert cA;revert zB;revert fB;revert cB;revert JE;revert A2;revert R2;revert L2;revert B2;revert v2;revert I';revert v1;exact Zz.down):G:=f ⟨h⟩
theorem δk {G H:Prop} (h:H)(f:PLift H->G:=by intro Zz;have Mh:=λd os=>(U1.below (ZW _ d os)).size;refine Wq ?_;revert Mh;exact Zz.down):G:=f ⟨h⟩
theorem δl {G H:Prop} (h:H)(f:PLift H->G:=by intro Zz;refine(bI l0 l1 l2 _ hl true ql).mono ?_;rintro e w2 ⟨rfl,JR⟩;have A2:=A1.tr JR;have NR:ah w2 w1 (aJ l0 l1 l2) 41:=Zv JR;revert NR;revert A2;revert JR;revert w2;exact Zz.down):G:=f ⟨h⟩
theorem δm {G H:Prop} (h:H)(f:PLift H->G:=by intro Zz;refine Jw (θ6 (Ks (λx=>x ∈ (PT.node b l i r).bs) w) B L R Kb Vb) (λv=>ah v w #[k.pos,ι ε k.id] 333) ρB ?_;rintro v1 A1 ⟨I',B1,L1,R1,N3,Pq⟩;replace cB:=B1.cell;replace fB:=B1.frozen;replace zB:=B1.size;replace Ml:=N3.cell;replace Mm:=N3.frozen;replace Mn:=N3.size;replace MW:=Pq.cell;replace MX:=Pq.frozen;replace Nk:=Pq.size;replace cA:=A1.cell;replace fA:=A1.frozen;replace zA:=A1.size;have qB:=ae B1;have qKb:=ae N3;have qVb:=ae Pq;have qA:=ae A1;refine Wq ?_;refine nZ ?_;refine Zq (θ7 B1 L1 R1 N3 Pq A1 I') ?_;rintro v2 ⟨B2,L2,R2,Oh,PV,A2,JE⟩;replace cB:=B2.cell;replace fB:=B2.frozen;replace zB:=B2.size;replace Ml:=Oh.cell;replace Mm:=Oh.frozen;replace Mn:=Oh.size;replace MW:=PV.cell;replace MX:=PV.frozen;replace Nk:=PV.size;replace cA:=A2.cell;replace fA:=A2.frozen;replace zA:=A2.size;clear qB qKb qVb qA B1 L1 R1 N3 Pq A1;revert zA;revert fA;revert cA;revert Nk;revert MX;revert MW;revert Mn;revert Mm;revert Ml;revert zB;revert fB;revert cB;revert JE;revert A2;revert PV;revert Oh;revert R2;revert L2;revert B2;revert v2;revert I';revert v1;exact Zz.down):G:=f ⟨h⟩
theorem δn {G H:Prop} (h:H)(f:PLift H->G:=by intro Zz;rintro e w1 ⟨rfl,JL⟩;have A1:ah w1 w (kR id par lf r0 r1 r2 l0 l1 l2 u0 u1 u2 pk by_) 43:=Zv JL;revert A1;revert JL;revert w1;exact Zz.down):G:=f ⟨h⟩
theorem δo {G H:Prop} (h:H)(f:PLift H->G:=by intro Zz;have Qq:decide (Md<m)=true:=ZT y0;have aX:=df (m<Md);revert aX;revert Qq;exact Zz.down):G:=f ⟨h⟩
theorem δp {G H:Prop} (h:H)(f:PLift H->G:=by intro Zz;refine eD v2 (λx=>x=(w.heap.size+1)) (λv=>ah v ((w+1)) #[ζ sa sn sc,ι ε m] 112) ρB (λ_ kx=>kx) ?_;rintro v9 R9 k9;have KS:=R9.cell;refine ZO (v:=φ #[ζ sa sn sc,ι ε m]) τv rfl ?_;revert KS;revert k9;revert R9;revert v9;exact Zz.down):G:=f ⟨h⟩
theorem δq {G H:Prop} (h:H)(f:PLift H->G:=by intro Zz;refine(bQ m d n k _ hm.1 hd.1 hn.1 Hk.out).mono ?_;exact Zz.down):G:=f ⟨h⟩
theorem δr {G H:Prop} (h:H)(f:PLift H->G:=by intro Zz;rintro e w4 ⟨rfl,MO⟩;have A4:=A3.tr MO;have P9:ah w4 w3 (aJ u0 u1 u2) 41:=Zv MO;have g4:=Tg w MO;have SI:=MO.size;(try simp at SI);clear MO;replace Rr:=θ2 A4.r P9.r;revert Rr;revert SI;revert g4;revert P9;revert A4;revert w4;exact Zz.down):G:=f ⟨h⟩
theorem δs {G H:Prop} (h:H)(f:PLift H->G:=by intro Zz;have nn:(n==0)=false:=ZN.2 ρa;have aX:=df (Md<m);have WQ:decide (Md<n)=true:=ZT y1;have bV:=df (n<Md);revert bV;revert WQ;revert aX;revert nn;exact Zz.down):G:=f ⟨h⟩
theorem δt {G H:Prop} (h:H)(f:PLift H->G:=by intro Zz;have z3:0<=H2/\H2<=1099511627776/\H1<=1099511627776/\0<=H1:=ρ2;have s_a:=ag (show a.many<=1099511627776 by simp only[PT.many];omega);revert s_a;revert z3;exact Zz.down):G:=f ⟨h⟩
theorem δu {G H:Prop} (h:H)(f:PLift H->G:=by intro Zz;refine(Dl r M v e _ Ns hM H.out).mono ?_;rintro e w3 ⟨rfl,KJ⟩;have A3:=A2.tr KJ;have g3:=Tg w KJ;have MU:=KJ.size;(try simp at MU);clear KJ;revert MU;revert g3;revert A3;revert w3;exact Zz.down):G:=f ⟨h⟩
theorem δv {G H:Prop} (h:H)(f:PLift H->G:=by intro Zz;have lM:=(am Ω Θ M' id (z:=φ (bJ ⟨⟨0,0⟩,⟨0,0⟩⟩)) ρm).1;rw[hl,hm] at lM;revert lM;exact Zz.down):G:=f ⟨h⟩
theorem δw {G H:Prop} (h:H)(f:PLift H->G:=by intro Zz;refine bK (θ7 PJ C21 G21 T21 E21 S21 X21) ?_;rintro QM ⟨Ni,SN,Rk,Rv,Qj,Qo,Sl⟩ Rr;replace rT:=Rv.r;replace NL:=(ll Qj);have qT:=ae Rv;have QJ:=λd os=>(ll (Qj.below (ZW _ d os)));have qX:=ae Sl;refine Wq ?_;revert qX;revert QJ;revert qT;revert NL;revert rT;revert Rr;revert Sl;revert Qo;revert Qj;revert Rv;revert Rk;revert SN;revert Ni;revert QM;exact Zz.down):G:=f ⟨h⟩
theorem δx {G H:Prop} (h:H)(f:PLift H->G:=by intro Zz;refine bK (θ6 JJ H4 N5 PB4 K8 Q4) ?_;rintro v5 ⟨JP,H5,ML,UD,KP,Q5⟩ Rr;replace JU:=(aj.c0 KP);replace J0:=((aj.c3 KP).trans σv);have NC:=ae ML;have RW:=ae UD;have J8:=λd os=>(aj.c0 (KP.below (ZW _ d os)));have Kq:=λd os=>((aj.c3 (KP.below (ZW _ d os))).trans σv);refine Wq ?_;refine nZ ?_;refine bB (θ6 H5 ML UD KP Q5 JP) ?_;clear Rr;rintro v6 ⟨H6,Oj,UE,LH,Q6,JT⟩ Rr;replace JU:=(aj.c0 LH);replace J0:=((aj.c3 LH).trans σv);clear NC RW J8 Kq H5 ML UD KP Q5;revert J0;revert JU;revert Rr;revert JT;revert Q6;revert LH;revert UE;revert Oj;revert H6;revert v6;revert JP;revert v5;exact Zz.down):G:=f ⟨h⟩
theorem δy {G H:Prop} (h:H)(f:PLift H->G:=by intro Zz;rintro e w1 ⟨rfl,JL⟩;have A1:ah w1 w (bC n) 70:=Zv JL;have R1:ah w1 (w+1) #[Ky,Kz] 104:=Zv JL;revert R1;revert A1;revert JL;revert w1;exact Zz.down):G:=f ⟨h⟩
theorem δz {G H:Prop} (h:H)(f:PLift H->G:=by intro Zz;have nn:(n==0)=false:=ZN.2 ρa;have Qq:decide (Md<n)=true:=ZT y0;have aX:=df (n<Md);revert aX;revert Qq;revert nn;exact Zz.down):G:=f ⟨h⟩
theorem δA {G H:Prop} (h:H)(f:PLift H->G:=by intro Zz;refine(bQ u0 u1 u2 _ _ hu.1 hu.2.1 hu.2.2 rfl).mono ?_;rintro e w5 ⟨rfl,KD⟩;have A5:=A4.tr KD;have Sm:=P9.tr KD;have g5:=Tg w KD;have RP:=KD.size;(try simp at RP);clear KD;replace Rr:=θ2 A5.r Sm.r;revert Rr;revert RP;revert g5;revert Sm;revert A5;revert w5;exact Zz.down):G:=f ⟨h⟩
theorem δB {G H:Prop} (h:H)(f:PLift H->G:=by intro Zz;refine δh ?_;intro w1 JL C1;have Y1:ah w1 (w+1) (mG y) 232:=Zv JL;have R1:ah w1 (w+1+1) nA 236:=Zv JL;refine ηY ?_;intro g1 J3;clear JL;revert J3;revert g1;revert R1;revert Y1;revert C1;revert w1;exact Zz.down):G:=f ⟨h⟩
theorem δC {G H:Prop} (h:H)(f:PLift H->G:=by intro Zz;refine(GI W Y r _ hW hY Hr.out Ns).mono ?_;rintro e w2 ⟨rfl,JR⟩;have A2:=A1.tr JR;have W2:=W1.tr JR;refine η6 ?_;intro g2 KN;clear JR;replace Rr:=θ2 A2.r W2.r;revert Rr;revert KN;revert g2;revert W2;revert A2;revert w2;exact Zz.down):G:=f ⟨h⟩
theorem δD {G H:Prop} (h:H)(f:PLift H->G:=by intro Zz;refine η5 ?_;intro JM hd;have Kd:L[q]?=some c:=ρC;revert Kd;revert hd;revert JM;exact Zz.down):G:=f ⟨h⟩
theorem δE {G H:Prop} (h:H)(f:PLift H->G:=by intro Zz;have nd:(d==0)=false:=ZN.2 ρa;have nn:(n==0)=false:=ZN.2 ρa;have aX:=df (Md<n);revert aX;revert nn;revert nd;exact Zz.down):G:=f ⟨h⟩
theorem δF {G H:Prop} (h:H)(f:PLift H->G:=by intro Zz;have C2:ah w2 (w+1) (aJ m d n) 41:=ah.below Rj JR Rj.size;have N2:ah w2 (w+1+1) #[x] 39:=ah.below Rm JR Rm.size;have R2:ah w2 (w+1+1+1) mT 238:=ah.below Zo JR Zo.size;have g2:Below w w w2:=gv2.trans (JR.mono gv2.size);have KN:w.heap.size<=w2:=g2.size;have Rr:=θ4 L2.r C2.r N2.r R2.r;revert Rr;revert KN;revert g2;revert R2;revert N2;revert C2;exact Zz.down):G:=f ⟨h⟩
theorem δG {G H:Prop} (h:H)(f:PLift H->G:=by intro Zz;refine dY wr (λv=>KO (λ_=>False) w v) (λv=>KO (λ_=>False) w v/\ah v w (f7 j.key.pos j.key.id j.val.pos j.val.id) 335) ((JE.trans (show KO (λx=>x=w.heap.size) _ _ from ρK) ρc)) (λkx=>⟨kx,ρB⟩) ?_;exact Zz.down):G:=f ⟨h⟩
theorem δH {G H:Prop} (h:H)(f:PLift H->G:=by intro Zz;refine Jc (θ2 (Ks (λ_=>False) w) G) (λv=>ah v w (fd x) 43/\ah v (w+1) #[Kn,Kz] 112) ⟨ρB,ρB⟩ ?_;rintro v1 ⟨C1,R1⟩ ⟨I',G1⟩;have Rr:=θ2 C1.r R1.r;refine(wY x.id x.par x.lf x.r0 x.r1 x.r2 x.l0 x.l1 x.l2 x.u0 x.u1 x.u2 x.pk x.by_ v1 hx.1 hx.2.1 hx.2.2 cw Yn.out).mono ?_;rintro e v2 ⟨rfl,kx⟩;clear Rr;obtain⟨⟨G2,C2,R2,JE⟩,Rr⟩:=Mx kx (θ4 G1 C1 R1 I');clear kx;revert Rr;revert JE;revert R2;revert C2;revert G2;revert v2;revert G1;revert I';revert R1;revert C1;revert v1;exact Zz.down):G:=f ⟨h⟩
theorem δI {G H:Prop} (h:H)(f:PLift H->G:=by intro Zz;simp only[PT.Apart,PT.bs,ZC,ZM,not_or] at ap;have NI:=(AT.high_many r.bare).2.1;have XI:=AT.high_many a.bare;revert XI;revert NI;revert ap;exact Zz.down):G:=f ⟨h⟩
theorem δJ {G H:Prop} (h:H)(f:PLift H->G:=by intro Zz;rintro e w1 ⟨rfl,JL⟩;refine ηY ?_;intro g1 J3;clear JL;revert J3;revert g1;revert w1;exact Zz.down):G:=f ⟨h⟩
theorem δK {G H:Prop} (h:H)(f:PLift H->G:=by intro Zz;refine(bI r0 r1 r2 _ hr true qr).mono ?_;refine δn ?_;intro w1 JL A1;refine ηY ?_;intro g1 J3;clear JL;have Rr:=A1.r;revert Rr;revert J3;revert g1;revert A1;revert w1;exact Zz.down):G:=f ⟨h⟩
theorem δL {G H:Prop} (h:H)(f:PLift H->G:=by intro Zz;have k2:KO (λy=>y=M) w v:=(KO.of_below (F:=λy=>y=M) ρE).trans kx (λ_ _ h=>h);have z2:=k2.size;revert z2;revert k2;exact Zz.down):G:=f ⟨h⟩
theorem δM {G H:Prop} (h:H)(f:PLift H->G:=by intro Zz;refine(IP p z 0 0 T Lm cv rv xpk xtk L2 Pn w H Wa ρa ⟨_,_,_,QU⟩ (λw1 k1 t1=>F.app cv g1 z.a.T z.a.M w1 (hw.trans (k1.below hw.size (λx hx h=>h (Nf x hx)))) t1) F.len F.lf F.nz).mono ?_;exact Zz.down):G:=f ⟨h⟩
theorem δN {G H:Prop} (h:H)(f:PLift H->G:=by intro Zz;refine au w (λv=>Below w w v) (λv=>Below w w v) ρE (λkx=>kx) ?_;exact Zz.down):G:=f ⟨h⟩
theorem δO {G H:Prop} (h:H)(f:PLift H->G:=by intro Zz;refine aH (λv=>Below w w v/\ah v w (dD l.has l.D l.E l.p Mc Mc) 238/\ah v (w+1) mT 238) ⟨ρE,ρB,ρB⟩ ?_;exact Zz.down):G:=f ⟨h⟩
theorem δP {G H:Prop} (h:H)(f:PLift H->G:=by intro Zz;have Yk:w.heap.size+1<v1:=hR1;have hm:=ag (hm h);have HG:=(af.ko hm.out.1 k9 (λx hx _ e=>by have:=Yk;omega)).base_le z01;revert HG;revert hm;revert Yk;exact Zz.down):G:=f ⟨h⟩
theorem δQ {G H:Prop} (h:H)(f:PLift H->G:=by intro Zz;have J3:=g1.size;have Rr:=θ3 A1.r C1.r R1.r;have cX:=X1.cell;have fX:=X1.frozen;have zX:=X1.size;revert zX;revert fX;revert cX;revert Rr;revert J3;exact Zz.down):G:=f ⟨h⟩
theorem δR {G H:Prop} (h:H)(f:PLift H->G:=by intro Zz;have H0:=H.own (o':=(o.more w .no)) (λx hx=>aV.more_lt hx);have S':=H0.1;have NM:∀x,x<w.heap.size->(o.more w .no) x=o x:=λx hx=>aV.more_lt hx;have YL:∀x,w.heap.size<=x->(o.more w .no) x=.no:=λx hx=>aV.more_ge hx;obtain⟨s0,Lx⟩:=Nq ({s with clk:=now}:SS);have W0:s0.Wf:=τn;revert W0;revert Lx;revert s0;revert YL;revert NM;revert S';revert H0;exact Zz.down):G:=f ⟨h⟩
theorem δS {G H:Prop} (h:H)(f:PLift H->G:=by intro Zz;refine(rb _ 0 0 false 0 0 0 0 0 0 0 0 0 0 0 ⟨by decide,by decide,by decide⟩ false rfl).mono ?_;exact Zz.down):G:=f ⟨h⟩
theorem δT {G H:Prop} (h:H)(f:PLift H->G:=by intro Zz;have nBR:=dX B' RB ρf;have nBS:=dX B' SB ρf;have SJ:=dX RB SB ρf;have Uv:=B'.size;have zR0:=RB.size;have XM:=SB.size;revert XM;revert zR0;revert Uv;revert SJ;revert nBS;revert nBR;exact Zz.down):G:=f ⟨h⟩
theorem δU {G H:Prop} (h:H)(f:PLift H->G:=by intro Zz;have hc:∀e v,(Instr.checkKey e 10000 K (ik k)).run P v=.ok () v:=λe v=>MapKept.run_checkKey (n:=9999) hK ρs e;revert hc;exact Zz.down):G:=f ⟨h⟩
theorem δV {G H:Prop} (h:H)(f:PLift H->G:=by intro Zz;have MA:=λd os=>((U1.below (ZW _ d os)).cell (i:=a) ρa);refine δk ?_;intro Mh;revert Mh;revert MA;exact Zz.down):G:=f ⟨h⟩
theorem δW {G H:Prop} (h:H)(f:PLift H->G:=by intro Zz;refine eD wr (λx=>x=w.heap.size) (λv=>ah v w #[(aX (Y)),(bV (Y)),(ij (Y)),(jg (Y))] 70) ρB (λ_ kx=>kx) ?_;exact Zz.down):G:=f ⟨h⟩
theorem δX {G H:Prop} (h:H)(f:PLift H->G:=by intro Zz;refine eD v1 (λx=>x=w.heap.size) (λv=>ah v w #[Kn,Kz,ι ε 2] 82) ρB (λ_ kx=>kx) ?_;rintro v9 R9 k9;have KS:=R9.cell;refine ZO (v:=φ #[Kn,Kz,ι ε 2]) σn rfl ?_;revert KS;revert k9;revert R9;revert v9;exact Zz.down):G:=f ⟨h⟩
theorem δY {G H:Prop} (h:H)(f:PLift H->G:=by intro Zz;refine δh ?_;intro w1 JL C1;have R1:ah w1 (w+1) #[Ky,Ky] 232:=Zv JL;refine ηY ?_;intro g1 J3;clear JL;have Rr:=θ2 C1.r R1.r;revert Rr;revert J3;revert g1;revert R1;revert C1;revert w1;exact Zz.down):G:=f ⟨h⟩
theorem δZ {G H:Prop} (h:H)(f:PLift H->G:=by intro Zz;refine aH (λv=>Below w w v/\ah v w (dD l.has l.D l.E l.p l.e l.t) 238/\ah v (w+1) mT 238) ⟨ρE,ρB,ρB⟩ ?_;exact Zz.down):G:=f ⟨h⟩
end Go.Proofs.YtfdlemkplejdnaaGreat
