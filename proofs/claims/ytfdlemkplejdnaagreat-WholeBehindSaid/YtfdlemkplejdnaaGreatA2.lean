/- WholeBehind, part 2. Conditions: none. -/
import Derived.Test.YtfdlemkplejdnaaGreatA1
import Derived.LoopN
import Derived.Deep.RegionWith
import Derived.Deep.RegionHeldLaw
import Derived.Deep.CutBlock
import Derived.Shelf.Abstract
import Derived.IntWalk
namespace Go.Proofs.YtfdlemkplejdnaaGreat
open Go.RowKit Go.Sort
open Value renaming int->ι,pointer->ψ,slice->ζ,tuple->χ,agg->φ,map->μ,bool->β
open IntKind renaming u64->υ,i64->ε,u16->ω
open Ending renaming returned->ϰ
open Go.Proofs.Tryz renaming prog->Ψ,underlying3->Θ,underlying147->Δ,underlying152->Γ,underlying202->Φ,underlying39->Ξ,underlying207->Ω
open Go renaming World->ϖ,Value->ϗ
set_option linter.unusedVariables false
set_option linter.unusedSimpArgs false
set_option maxHeartbeats 8000000
set_option maxRecDepth 100000
theorem ξa {p:Prop} (h:p:=by
 refine aU w (λv=>KO (λx=>x=g) w v/\US v g N) (λv=>KO (λx=>x=g) w v/\US v g N) ⟨ρK,ρ0⟩ (λkx=>kx) ?_;rintro W ⟨kW,U'⟩;clear I' Jz JD QK QL U0;go_wp2_with fail;go_loopw [9,10] (λt u wr=>∃i j:Nat,t=ι ε i/\u=ι ε j/\(a+1<=i/\i<=b)/\(a<=j/\j<b)/\US wr g N/\KO (λx=>x=g) w wr) (λt u _=>(intOf u+2 - intOf t).toNat);case atStart=>exact⟨a+1,b - 1,by first|rfl|(congr 1;omega)|go_num,by first|rfl|(congr 1;omega)|go_num,⟨by omega,by omega⟩,⟨by omega,by omega⟩,U',kW⟩
 case round=>
  obtain⟨i,j,rfl,rfl,hi,hj,⟨f,U9⟩,k99⟩:=hrel;generalize wr=W at*;go_upto_block 2 with fail;go_cut [9] from 29 to 45 (λt wx=>∃i1:Nat,t=ι ε i1/\((a+1<=i1/\i1<=b)/\i<=i1)/\UR wx g N f/\KO (λx=>x=g) W wx);case first=>
   go_wp2_with fail;go_loopw [9] (λt wr=>∃i1:Nat,t=ι ε i1/\((a+1<=i1/\i1<=b)/\i<=i1)/\UR wr g N f/\KO (λx=>x=g) W wr) (λt _=>(j+1 - intOf t).toNat);case atStart=>exact⟨i,rfl,⟨hi,ZR _⟩,U9,KO.refl _ _⟩
   case round=>
    obtain⟨i1,rfl,hv,U0,IB⟩:=hrel;by_cases cg:i1<=j
    rotate_left
    ·have dg:=ZF cg;have I':=U0.size;go_wp2_with fail;refine Zw (θ2 IB U0) ?_;rintro v1 ⟨F',U1⟩;replace I':=U1.size;have JN:=λd os=>(U1.below (ZW _ d os)).size;refine Wq ?_
     repeat (go_big_quiet_step ((first
       | (go_at_call 226;(with_reducible exact an (bY _ _ _))))))
     refine Zq (θ2 U1 F') ?_;rintro v2 ⟨U2,Iz⟩;replace I':=U2.size;clear JN U1;go_wp2;go_meet;exact⟨i1,rfl,hv,U2,Iz⟩
    have dg:=ZT cg;have I':=(U0.cell (i:=a) ρa);have Jz:=(U0.cell (i:=i1) ρa);have JD:=U0.size;go_wp2_with fail;refine Zw (θ2 IB U0) ?_;rintro v1 ⟨F',U1⟩;replace I':=(U1.cell (i:=a) ρa);replace Jz:=(U1.cell (i:=i1) ρa);replace JD:=U1.size;have JN:=λd os=>((U1.below (ZW _ d os)).cell (i:=a) ρa);have Lg:=λd os=>((U1.below (ZW _ d os)).cell (i:=i1) ρa);have KT:=λd os=>(U1.below (ZW _ d os)).size;refine Wq ?_
    repeat (go_big_quiet_step ((first
      | (go_at_call 226;(with_reducible exact an (bY _ _ _))))))
    refine Zq (θ2 U1 F') ?_;rintro v2 ⟨U2,Iz⟩;replace I':=(U2.cell (i:=a) ρa);replace Jz:=(U2.cell (i:=i1) ρa);replace JD:=U2.size;clear JN Lg KT U1;by_cases cc:f a<f i1
    rotate_left
    ·have NY:=ZF cc;have Sh:=dt (f i1<=f a);have MF:(!decide (f a<f i1))=true:=by rw[NY];rfl
     go_wp2_with fail
     all_goals (first|(refine ax (Eq.trans (MF).symm ?_:true=false) ρf;assumption)|skip)
     go_roundw;case rel=>exact⟨i1+1,by first|rfl|(congr 1;omega)|go_num,by omega,U2.below ρE,Iz.step0 ρE⟩
     case measure=>first|(simp[intOf];done)|(simp[intOf];omega)
    have NY:=ZT cc;have Sh:=df (f i1<=f a);have MF:(!decide (f a<f i1))=false:=τ1;go_wp2_with fail
    all_goals (first|(refine ax (Eq.trans (MF).symm ?_:false=true) ρf;assumption)|skip)
    go_meet;exact⟨i1,rfl,hv,U2,Iz⟩
  case rest=>
   obtain⟨i1,rfl,hi1,U8,Vv⟩:=hcut;clear hi;go_upto_block 4 with fail;go_cut [10] from 46 to 61 (λt wx=>∃j1:Nat,t=ι ε j1/\((a<=j1/\j1<b)/\j1<=j)/\UR wx g N f/\KO (λx=>x=g) W wx);case first=>
    go_wp2_with fail;go_loopw [10] (λt wr=>∃j1:Nat,t=ι ε j1/\((a<=j1/\j1<b)/\j1<=j)/\UR wr g N f/\KO (λx=>x=g) W wr) (λt _=>(intOf t).toNat);case atStart=>exact⟨j,rfl,⟨hj,ZR _⟩,U8,Vv⟩
    case round=>
     obtain⟨j1,rfl,hv,U0,IB⟩:=hrel;by_cases cg:i1<=j1
     rotate_left
     ·have dg:=ZF cg;have I':=U0.size;go_wp2_with fail;refine Zw (θ2 IB U0) ?_;rintro v1 ⟨F',U1⟩;replace I':=U1.size;have JN:=λd os=>(U1.below (ZW _ d os)).size;refine Wq ?_
      repeat (go_big_quiet_step ((first
        | (go_at_call 226;(with_reducible exact an (bY _ _ _))))))
      refine Zq (θ2 U1 F') ?_;rintro v2 ⟨U2,Iz⟩;replace I':=U2.size;clear JN U1;go_wp2;go_meet;exact⟨j1,rfl,hv,U2,Iz⟩
     have dg:=ZT cg;have I':=(U0.cell (i:=a) ρa);have Jz:=(U0.cell (i:=j1) ρa);have JD:=U0.size;go_wp2_with fail;refine Zw (θ2 IB U0) ?_;rintro v1 ⟨F',U1⟩;replace I':=(U1.cell (i:=a) ρa);replace Jz:=(U1.cell (i:=j1) ρa);replace JD:=U1.size;have JN:=λd os=>((U1.below (ZW _ d os)).cell (i:=a) ρa);have Lg:=λd os=>((U1.below (ZW _ d os)).cell (i:=j1) ρa);have KT:=λd os=>(U1.below (ZW _ d os)).size;refine Wq ?_
     repeat (go_big_quiet_step ((first
       | (go_at_call 226;(with_reducible exact an (bY _ _ _))))))
     refine Zq (θ2 U1 F') ?_;rintro v2 ⟨U2,Iz⟩;replace I':=(U2.cell (i:=a) ρa);replace Jz:=(U2.cell (i:=j1) ρa);replace JD:=U2.size;clear JN Lg KT U1;by_cases cc:f a<f j1
     rotate_left
     ·have NY:=ZF cc;have Sh:=dt (f j1<=f a);have MF:(!decide (f a<f j1))=true:=by rw[NY];rfl
      go_wp2_with fail
      all_goals (first|(refine ax (Eq.trans (MF).symm ?_:true=false) ρf;assumption)|skip)
      go_meet;exact⟨j1,rfl,hv,U2,Iz⟩
     have NY:=ZT cc;have Sh:=df (f j1<=f a);have MF:(!decide (f a<f j1))=false:=τ1;go_wp2_with fail
     all_goals (first|(refine ax (Eq.trans (MF).symm ?_:false=true) ρf;assumption)|skip)
     go_roundw;case rel=>exact⟨j1 - 1,by first|rfl|(congr 1;omega)|go_num,by omega,U2.below ρE,Iz.step0 ρE⟩
     case measure=>first|(simp[intOf];done)|(simp[intOf];omega)
   case rest=>
    obtain⟨j1,rfl,hj1,U7,k77⟩:=hcut
    rename ϖ=>wz
    clear hj U8 Vv;have kz:=k99.trans k77 (λ_ _ e=>e);by_cases cx:j1<i1
    ·have dx:=ZT cx;go_wp2;go_ret;exact⟨i1,rfl,by omega,by omega,U7.us.below ρE,kz.step0 ρE⟩
    have dx:=ZF cx;have I':=U7.cell (i:=i1) ρa;have Jz:=U7.cell (i:=j1) ρa;have JD:=U7.size;have QK:=U7.frozen i1;have QL:=U7.frozen j1;have nz:i1=j1\/i1≠j1:=ρa;rcases nz with nz|nz
    ·subst nz;go_wp2_with fail;go_region
     all_goals
      go_wp2;go_roundw;case rel=>exact⟨i1+1,i1 - 1,by first|rfl|(congr 1;omega)|go_num,by first|rfl|(congr 1;omega)|go_num,⟨by omega,by omega⟩,⟨by omega,by omega⟩,ρq,kz.trans (G:=λx=>x=g) ρK (λ_ _ e=>e)⟩
      case measure=>first|(simp[intOf];done)|(simp[intOf];omega)
    ·go_wp2_with fail;go_region
     all_goals
      go_wp2;go_roundw;case rel=>exact⟨i1+1,j1 - 1,by first|rfl|(congr 1;omega)|go_num,by first|rfl|(congr 1;omega)|go_num,⟨by omega,by omega⟩,⟨by omega,by omega⟩,ρq,kz.trans (G:=λx=>x=g) ρK (λ_ _ e=>e)⟩
      case measure=>first|(simp[intOf];done)|(simp[intOf];omega)):p:=h
theorem ξb {p:Prop} (h:p:=by
 replace I':=U2.cell (i:=first+r) ρa;replace Jz:=U2.cell (i:=first+(2*r+1)) ρa;go_wp2_with fail;refine Zw (θ2 Iz U2) ?_;rintro v3 ⟨ID,U3⟩;replace I':=(U3.cell (i:=first+r) ρa);replace Jz:=(U3.cell (i:=first+(2*r+1)) ρa);replace JD:=U3.size;have JN:=λd os=>((U3.below (ZW _ d os)).cell (i:=first+r) ρa);have Lg:=λd os=>((U3.below (ZW _ d os)).cell (i:=first+(2*r+1)) ρa);have KT:=λd os=>(U3.below (ZW _ d os)).size;refine Wq ?_
 repeat (go_big_quiet_step ((first
   | (go_at_call 226;(with_reducible exact an (bY _ _ _))))))
 refine Zq (θ2 U3 ID) ?_;rintro v4 ⟨U4,IC⟩;replace I':=(U4.cell (i:=first+r) ρa);replace Jz:=(U4.cell (i:=first+(2*r+1)) ρa);replace JD:=U4.size;clear JN Lg KT U3;by_cases c5:f (first+r)<f (first+(2*r+1))
 rotate_left
 ·have Zr:=ZF c5;have ec5:=dt (f (first+(2*r+1))<=f (first+r));have nc5:(!decide (f (first+r)<f (first+(2*r+1))))=true:=by rw[Zr];rfl
  go_wp2_with fail
  all_goals (first|(refine ax (Eq.trans (nc5).symm ?_:true=false) ρf;assumption)|skip)
  (first|go_end0|((try simp only[Exit.inBlock,Exit.then]);refine ZO (results_none rfl _ _ _) rfl ?_));exact⟨rfl,U4.us,IC⟩
 have Zr:=ZT c5;have ec5:=df (f (first+(2*r+1))<=f (first+r));have nc5:(!decide (f (first+r)<f (first+(2*r+1))))=false:=by rw[Zr];rfl
 have nq:first+r≠first+(2*r+1):=ρa;have QK:=U4.frozen (first+r);have QL:=U4.frozen (first+(2*r+1));go_wp2_with fail
 all_goals (first|(refine ax (Eq.trans (nc5).symm ?_:false=true) ρf;assumption)|skip)
 go_region
 all_goals
  go_wp2;go_roundw;case rel=>exact⟨2*r+1,by first|rfl|(congr 1;omega),by omega,σA,IC.trans (G:=λx=>x=g) ρK (λ_ _ e=>e)⟩
  case measure=>simp[intOf];omega):p:=h
theorem ξc {p:Prop} (h:p:=by have:=IK.out;simp[intOf] at*;omega):p:=h
theorem ξd {p:Prop} (h:p:=by
 go_upto_region 7 with (fail);refine aU v6 (λv=>Below v6 v6 v) (λv=>Below w w v/\az 3 fo v B (ζ oa n oc) l/\ah v (w+1) #[ζ oa n oc] 115/\ah v w #[ι ε t] 3) ρE (λkx=>⟨(IQ.step0 kx).toBelow,G6.below kx,L6.below kx L6.size,T6.below kx T6.size⟩) ?_;rintro v9 ⟨Jl,G9,L9,T9⟩;clear cL fL zL cT fT zT;have cL:=L9.cell;have zL:=L9.size;have cT:=T9.cell;have zT:=T9.size;go_region_with (first|(go_at_call 188;refine(DF (ζ oa n oc) l _ B (G9.below ρE) hl hc).mono ?_;rintro e va ⟨s,rfl,hs,kx⟩;have kab:Below v9 v9 va:=Below.trans ρE (kx.mono ρp);have La:=L9.below kab L9.size;have Ta:=T9.below kab T9.size;have cTa:=Ta.cell;have zTa:=Ta.size;have PM:0<=s/\s<=288230376151711744:=⟨hs.1,by have h9:(l.length:Int)<=49:=ρa;omega⟩)|(go_at_call 186;refine(yo s t 1 _ PM ρa ρa).mono ?_;rintro e vb ⟨rfl,ky⟩;have kbc:Below va va vb:=Below.trans ρE (ky.mono ρp)))
 all_goals
  go_wp2;go_ret2;refine⟨_,_,rfl,((Jl.trans (kab.mono Jl.size)).trans (kbc.mono (ZK Jl.size kab.size))).trans ρE,λe=>?_⟩;have h9:s=0:=by rw[e] at hs;simp at hs;omega
  rw[h9];unfold kG;simp):p:=h
theorem ξe {p:Prop} (h:p:=by first|(simp[intOf];done)|(simp[intOf];omega)):p:=h
theorem ξf {p:Prop} (h:p:=by
 have hr:g=v:=by have:=hv.out;simpa using this
 subst hr;have Rr:=S'.r;have IT:=((aj.c1 X').trans σm);have I5:=((aj.c3 X').trans σV);have Kq:=((aj.c59 X').trans σ3);unfold CB;go_in;go_wp2_with fail;refine bS (θ4 (Ks (λ_=>False) w) S' A' X') ?_;clear Rr;rintro v1 ⟨F',JE,Om,JS⟩ Rr;replace IT:=((aj.c1 JS).trans σm);replace I5:=((aj.c3 JS).trans σV);replace Kq:=((aj.c59 JS).trans σ3);have q:=af JE;have Jh:=λd os=>((aj.c1 (JS.below (ZW _ d os))).trans σm);have Jt:=λd os=>((aj.c3 (JS.below (ZW _ d os))).trans σV);have MI:=λd os=>((aj.c59 (JS.below (ZW _ d os))).trans σ3);refine Wq ?_
 repeat (go_big_quiet_step ((first
   | (go_at_call 124;(with_reducible exact an (Cf s.A a.ON a.A a.O a.C o s.L i _ _ (Om.below (ZW _ _ _)) Ob.out))))))
 refine bF (θ4 JE Om JS F') ?_;clear Rr;rintro v2 ⟨KJ,OU,JZ,Iz⟩ Rr;replace IT:=((aj.c1 JZ).trans σm);replace I5:=((aj.c3 JZ).trans σV);replace Kq:=((aj.c59 JZ).trans σ3);clear q Jh Jt MI JE Om JS;go_wp2;go_ret;exact⟨rfl,(Iz.step0 ρE).toBelow⟩):p:=h
theorem ξg {p:Prop} (h:p:=by refine bF (θ4 G9 S9 M9 Jl) ?_;clear Rr;rintro Lj ⟨Qw,S10,OZ,I7⟩ Rr;replace K7:=(az.cell OZ I3.out 1 (u:=ι ε a.par) rfl);replace K8:=(az.cell OZ Jx.out 1 (u:=ι ε b.par) rfl);replace KH:=(az.cell OZ I3.out 8 (u:=a.l2) rfl);replace K9:=(az.cell OZ Jx.out 8 (u:=b.l2) rfl);clear qS WU WV WW WX G9 S9 M9;go_wp2_with fail;refine Zc I7 ?_;rintro JR Jn;refine(AL JR).mono ?_;rintro e Mj ⟨rfl,kx⟩;have Jk:KO (λ_=>False) w Mj:=Jn.step0 kx;clear kx;go_wp2;go_ret;exact⟨rfl,Jk.toBelow.trans ρE⟩):p:=h
theorem ξh {p:Prop} (h:p:=by rintro e OT ⟨rfl,o22,H22,oe22,kx⟩;have R22:=R21.ko kx (λf=>f UH);have PB22:=VO.ko kx (λf=>f nP21);have Lf:=NH.trans kx (λx hx f=>by (try dsimp only at f);rw[ow21 x hx] at f;exact f);have z22:=kx.size;have nR22:=(oe22 _ R21.size).trans UH;clear kx;have rR:=R22.r;have Ri:=PB22.r;have nRP:¬w.heap.size=v4:=ρa;go_wp2_with fail;refine eu OT (λx=>x=w.heap.size) (λv=>ah v w #[ι ε i,p.id,ι ε p.len,ι ω p.h0,ι ω p.h1,ι ω p.h2,ι ω p.h3,β NB] 253) ρB (λ_ kx=>kx) ?_;rintro YB R23 kx;replace rR:=R23.r;refine ZO (v:=χ #[φ #[ι ε i,p.id,ι ε p.len,ι ω p.h0,ι ω p.h1,ι ω p.h2,ι ω p.h3,β NB],fJ]) τt rfl ?_;exact .inl ⟨i,NB,p,r,c,xs,Ka.out ▸ KD.out,by rw[<- Sd.out.1];exact hc.out,by rw[<- Sd.out.2.1];exact hq.out,by rw[<- Sd.out.1];exact hu.out,rfl,o22,(H22.ko kx (λx e=>by (try dsimp only at e);rw[e];exact nR22)).same Lt.out.symm,λx hx=>(oe22 x ρa).trans (ow21 x hx),Lf.trans kx σw⟩):p:=h
theorem ξi {p:Prop} (h:p:=by go_wp2_with fail;refine eu v1 (λx=>x=w.heap.size) (λv=>ah v w #[Kn,Kz,Ko] 82) ρB (λ_ kx=>kx) ?_;rintro v9 R9 k9;have Kd:=R9.cell;refine ZO (v:=φ #[Kn,Kz,Ko]) σo rfl ?_;exact⟨_,_,_,_,1,rfl,λh=>ax h ρf,F'.toBelow.trans (k9.below F'.size ρC)⟩):p:=h
theorem ξj {p:Prop} (h:p:=by
 have hs:=ag (show (if i.key.lt k then (1:Int) else 0)=1 from ZP IJ);have H1:=ag (And.intro o2 hx);clear o1 o2 o3 o4 hx hi IJ;have X:=R;go_wp2_with fail;refine bS (θ4 (Ks (λ_=>False) wr) A B X) ?_;clear Rr Ss;rintro v1 ⟨F',A1,B1,X1⟩ Rr;have q:=θ2 (af A1) (af B1);refine Wq ?_;refine pe ?_;refine bF (θ4 A1 B1 X1 F') ?_;clear Rr;rintro v2 ⟨A2,B2,X2,Iz⟩ Rr;clear q A1 B1 X1;go_wp2_with fail;go_wp2_with fail;refine bS (θ4 Iz A2 B2 X2) ?_;clear Rr;rintro v3 ⟨ID,A3,B3,X3⟩ Rr;have q:=θ2 (af A3) (af B3);refine Wq ?_
 repeat (go_big_quiet_step ((first
   | (go_at_call 270;(with_reducible exact bT (mN b i m0 (PT.ptr l) (PT.ptr r) h0 n0 k 1 _ (B3.below (ZW _ _ _) B3.size) hs.out))))))
 refine bF (θ4 A3 B3 X3 ID) ?_;clear Rr;rintro v4 ⟨A4,B4,X4,IC⟩ Rr;clear q A3 B3 X3;go_wp2_with fail;go_roundg r.sz;case measure=>rw[<- XV.out];simp only[PT.sz];omega
 case rel=>exact⟨r,rfl,rfl,X4,A4,k0.trans IC (λ_ _ f=>f),ag H1.out.1,ag H1.out.2⟩):p:=h
theorem ξk {p:Prop} (h:p:=by
 have hs:=ag (show (if i.key.lt k then (1:Int) else 0)=0 from ZI IJ);have H1:=ag (And.intro o1 hx);clear o1 o2 o3 o4 hx hi IJ;have X:=L;go_wp2_with fail;refine bS (θ4 (Ks (λ_=>False) wr) A B X) ?_;clear Rr Ss;rintro v1 ⟨F',A1,B1,X1⟩ Rr;have q:=θ2 (af A1) (af B1);refine Wq ?_;refine pe ?_;refine bF (θ4 A1 B1 X1 F') ?_;clear Rr;rintro v2 ⟨A2,B2,X2,Iz⟩ Rr;clear q A1 B1 X1;go_wp2_with fail;go_wp2_with fail;refine bS (θ4 Iz A2 B2 X2) ?_;clear Rr;rintro v3 ⟨ID,A3,B3,X3⟩ Rr;have q:=θ2 (af A3) (af B3);refine Wq ?_
 repeat (go_big_quiet_step ((first
   | (go_at_call 270;(with_reducible exact bT (mN b i m0 (PT.ptr l) (PT.ptr r) h0 n0 k 0 _ (B3.below (ZW _ _ _) B3.size) hs.out))))))
 refine bF (θ4 A3 B3 X3 ID) ?_;clear Rr;rintro v4 ⟨A4,B4,X4,IC⟩ Rr;clear q A3 B3 X3;go_wp2_with fail;go_roundg l.sz;case measure=>rw[<- XV.out];simp only[PT.sz];omega
 case rel=>exact⟨l,rfl,rfl,X4,A4,k0.trans IC (λ_ _ f=>f),ag H1.out.1,ag H1.out.2⟩):p:=h
theorem ξl {p:Prop} (h:p:=by go_wp2_with fail;refine Zc I7 ?_;rintro JR Jn;refine(AL JR).mono ?_;rintro e Mj ⟨rfl,kx⟩;have Jk:KO (λ_=>False) w Mj:=Jn.step0 kx;clear kx;go_wp2;go_ret;exact⟨rfl,Jk.toBelow.trans ρE⟩):p:=h
theorem ξm {p:Prop} (h:p:=by skip;go_wp2_with (first|(go_at_call 229;refine(aK _ _ _ _).mono ?_;rintro e w' ⟨rfl,rfl⟩)|(go_at_call 118;refine(bm id par false r0 r1 r2 l0 l1 l2 u0 u1 u2 pk by_ _ hr).mono ?_;refine bo ?_;intro w' f' IZ IY;have IP:=A9.tr f';have rA:=IP.r;clear f')|(go_at_call 105;refine(aO id par false r0 r1 r2 l0 l1 l2 u0 u1 u2 pk by_ _ hl).mono ?_;refine bo ?_;intro w' f' IZ IY;have IP:=A9.tr f';have rA:=IP.r;clear f')|(go_at_call 230;refine(aL id par false r0 r1 r2 l0 l1 l2 u0 u1 u2 pk by_ _ hu).mono ?_;refine bo ?_;intro w' f' IZ IY;have IP:=A9.tr f';have rA:=IP.r;clear f'));go_ret;exact⟨dP (by rw[gp,gz,gy,gr,gu,gl];simp[pj]),ρE⟩):p:=h
theorem ξn {p:Prop} (h:p:=by skip;go_wp2_with (first|(go_at_call 229;refine(aK _ _ _ _).mono ?_;rintro e w' ⟨rfl,rfl⟩)|(go_at_call 118;refine(bm id par true r0 r1 r2 l0 l1 l2 u0 u1 u2 pk by_ _ hr).mono ?_;refine bo ?_;intro w' f' IZ IY;have IP:=A9.tr f';have rA:=IP.r;clear f')|(go_at_call 105;refine(aO id par true r0 r1 r2 l0 l1 l2 u0 u1 u2 pk by_ _ hl).mono ?_;refine bo ?_;intro w' f' IZ IY;have IP:=A9.tr f';have rA:=IP.r;clear f')|(go_at_call 230;refine(aL id par true r0 r1 r2 l0 l1 l2 u0 u1 u2 pk by_ _ hu).mono ?_;refine bo ?_;intro w' f' IZ IY;have IP:=A9.tr f';have rA:=IP.r;clear f'));go_ret;exact⟨dP (by rw[gp,gz,gb,gr,gl,gu];simp[pj]),ρE⟩):p:=h
theorem ξo {p:Prop} (h:p:=by skip;go_wp2_with (first|(go_at_call 229;refine(aK _ _ _ _).mono ?_;rintro e w' ⟨rfl,rfl⟩)|(go_at_call 118;refine(bm id par true r0 r1 r2 l0 l1 l2 u0 u1 u2 pk by_ _ hr).mono ?_;refine bo ?_;intro w' f' IZ IY;have IP:=A9.tr f';have rA:=IP.r;clear f')|(go_at_call 105;refine(aO id par true r0 r1 r2 l0 l1 l2 u0 u1 u2 pk by_ _ hl).mono ?_;refine bo ?_;intro w' f' IZ IY;have IP:=A9.tr f';have rA:=IP.r;clear f')|(go_at_call 230;refine(aL id par true r0 r1 r2 l0 l1 l2 u0 u1 u2 pk by_ _ hu).mono ?_;refine bo ?_;intro w' f' IZ IY;have IP:=A9.tr f';have rA:=IP.r;clear f'));go_ret;exact⟨dP (by rw[gp,gz,gb,gr,gu,gl];simp[pj]),ρE⟩):p:=h
theorem ξp {p:Prop} (h:p:=by skip;go_wp2_with (first|(go_at_call 229;refine(aK _ _ _ _).mono ?_;rintro e w' ⟨rfl,rfl⟩)|(go_at_call 118;refine(bm id par false r0 r1 r2 l0 l1 l2 u0 u1 u2 pk by_ _ hr).mono ?_;refine bo ?_;intro w' f' IZ IY;have IP:=A9.tr f';have rA:=IP.r;clear f')|(go_at_call 105;refine(aO id par false r0 r1 r2 l0 l1 l2 u0 u1 u2 pk by_ _ hl).mono ?_;refine bo ?_;intro w' f' IZ IY;have IP:=A9.tr f';have rA:=IP.r;clear f')|(go_at_call 230;refine(aL id par false r0 r1 r2 l0 l1 l2 u0 u1 u2 pk by_ _ hu).mono ?_;refine bo ?_;intro w' f' IZ IY;have IP:=A9.tr f';have rA:=IP.r;clear f'));go_ret;exact⟨dP (by rw[gp,gz,gb,gr,gl];simp[pj]),ρE⟩):p:=h
theorem ξq {p:Prop} (h:p:=by skip;go_wp2_with (first|(go_at_call 229;refine(aK _ _ _ _).mono ?_;rintro e w' ⟨rfl,rfl⟩)|(go_at_call 118;refine(bm id par true r0 r1 r2 l0 l1 l2 u0 u1 u2 pk by_ _ hr).mono ?_;refine bo ?_;intro w' f' IZ IY;have IP:=A9.tr f';have rA:=IP.r;clear f')|(go_at_call 105;refine(aO id par true r0 r1 r2 l0 l1 l2 u0 u1 u2 pk by_ _ hl).mono ?_;refine bo ?_;intro w' f' IZ IY;have IP:=A9.tr f';have rA:=IP.r;clear f')|(go_at_call 230;refine(aL id par true r0 r1 r2 l0 l1 l2 u0 u1 u2 pk by_ _ hu).mono ?_;refine bo ?_;intro w' f' IZ IY;have IP:=A9.tr f';have rA:=IP.r;clear f'));go_ret;exact⟨dP (by rw[gp,gz,gy,gr];simp[pj]),ρE⟩):p:=h
theorem ξr {p:Prop} (h:p:=by obtain⟨PX,rfl,lX,g1,A1,R1,C1,N1,L1,X1⟩:=hcut;have Jf:=g1.size;have Ss:=θ5 A1.r R1.r C1.r N1.r L1.r;have cX:=X1.cell;have fX:=X1.frozen;have zX:=X1.size;go_wp2_with fail;refine(lD a s u _ oa os Hu.out).mono ?_;rintro e w2 ⟨rfl,IW⟩;have R2:ah w2 (w+1) nk 236:=Zv IW;have X2:ah w2 (PX) (fW s) 236:=Zv IW;have g2:=Tg w IW;have Jr:=IW.size;(try simp at Jr);clear IW;clear Ss;replace Rr:=R2.r;replace cX:=X2.cell;replace fX:=X2.frozen;replace zX:=X2.size;go_upto_region 4 with (fail);refine aI (λv=>Below w w v/\ah v (w+1) nk 236/\ah v (PX) (fW u) 236) ⟨ρE,ρB,ρB⟩ ?_;rintro w3 ⟨g3,R3,X3⟩;have LD:=g3.size;replace Rr:=R3.r;replace cX:=X3.cell;replace fX:=X3.frozen;replace zX:=X3.size;go_wp2;exact Eb (w+1) (fW u) 236 rfl τa):p:=h
theorem ξs {p:Prop} (h:p:=by change Hid _ at N9 RO;go_wp2_with fail;refine bS (θ6 Iz H2 KJ PB2 JZ Q2) ?_;clear Rr Ss;rintro v3 ⟨ID,H3,KK,YY,J0,Q3⟩ Rr;replace IT:=(aj.c0 J0);replace I5:=((aj.c3 J0).trans σv);have MH:=af KK;have Rh:=af YY;have Jh:=λd os=>(aj.c0 (J0.below (ZW _ d os)));have Jt:=λd os=>((aj.c3 (J0.below (ZW _ d os))).trans σv);refine Wq ?_;refine pe ?_;refine bF (θ6 H3 KK YY J0 Q3 ID) ?_;clear Rr;rintro v4 ⟨H4,Nh,PB4,J1,Q4,IC⟩ Rr;replace IT:=(aj.c0 J1);replace I5:=((aj.c3 J1).trans σv);clear MH Rh Jh Jt H3 KK YY J0 Q3;go_wp2;go_ret;exact⟨26,s0,rfl,by rw[RO.out];exact N9.out,(o.more w .no),H4.below ρE,MS,IC.step0 ρE⟩):p:=h
theorem ξt {p:Prop} (h:p:=by go_wp2_with fail;refine Zc IC ?_;rintro v5 IN;refine(AL v5).mono ?_;rintro e v6 ⟨rfl,kx⟩;have IQ:KO (λ_=>False) w v6:=IN.step0 kx;clear kx;go_wp2;go_ret;exact⟨rfl,IQ.toBelow.trans ρE⟩):p:=h
theorem ξu {p:Prop} (h:p:=by
 have PG:=@run_makeMap Ψ;go_in;go_wp2_with fail;refine(FU _).mono ?_;rintro e v1 ⟨rfl,T1,kx⟩;have z1:=T1.1.size;go_wp2;go_ret;refine⟨_,rfl,⟨λx=>w.heap.size<=x/\x<v1+2,⟨w,v1,.nil,[],ρB,bj.below T1 ρE,?_,by simp[PT.bare,AT.Ord,AT.items],λy=>by simp[PT.bare,AT.items],λj=>rfl,λj p h=>(by cases h),⟨by omega,by omega,by omega,λx hx=>by simp[PT.bs] at hx⟩,λx hx=>by simp;omega⟩,λx hx=>hx.1⟩,?_⟩
 ·exact(aA.made v1).alloc _
 ·exact Below.trans kx (Below.mono ρE kx.size)):p:=h
theorem ξv {p:Prop} (h:p:=by rintro e v5 ⟨rfl,QA5,kx⟩;have H5:=H4.entTo (x:=s0.e i) hc OH.out Jj.out kx (λy f=>.inr (ND.out y f)) ⟨J1.ko kx τc,ob,by unfold dQ;rw[ZP OJ.out];exact⟨Q,OD,rfl,QA5,ND.out⟩,ok.out⟩;rw[jQ] at H5;have IN:=IC.trans kx σH;clear kx;change Hid _ at N9 RO;go_wp2;go_ret;exact⟨30,s0,rfl,by rw[RO.out];exact N9.out,(o.more w .no),H5.below ρE,MS,IN.step0 ρE⟩):p:=h
theorem ξw {p:Prop} (h:p:=by
 by_cases IJ:k<m
 ·go_wp2;go_round;case rel=>exact⟨k+1,by omega,by go_num,by rw[hs.out]⟩
  case measure=>simp[intOf];omega
 ·obtain rfl:k=m:=by omega
  go_wp2;go_ret;exact⟨rfl,ρE⟩):p:=h
theorem ξx {p:Prop} (h:p:=by go_in;go_wp2;go_ret;exact⟨rfl,rfl⟩):p:=h
theorem ξy {p:Prop} (h:p:=by replace Pp:=ag Pp;go_wp2_with (go_at_fn g;refine(hp x (by rw[IF.out];simp) _ (IB.step0 ρE).toBelow).mono ?_;rintro e v4 ⟨e0,kx⟩;rw[Pp.out] at e0;subst e0;have IC:KO (λ_=>False) w v4:=IB.step0 (Below.trans ρE (kx.mono ρp));have H4:=ae.below (ae.below H0 ρE) kx);go_ret;exact⟨by rw[hi.out,ii,ZP Pp.out];rfl,(IC.step0 ρE).toBelow⟩):p:=h
theorem ξz {p:Prop} (h:p:=by exact⟨a++[x],r,by rw[ZL,hq.out];go_num,by rw[IF.out];simp,by rw[hi.out,ii,Pp.out,ZI ρp,ZL,hq.out];rfl,ae.below H4 ρE,IC.step0 ρE⟩):p:=h
theorem ξA {p:Prop} (h:p:=by
 rcases nq with nq|nq
 ·subst nq;go_region
  all_goals
   go_wp2;go_meet;exact⟨ρq,ρK⟩
 ·go_region
  all_goals
   go_wp2;go_meet;exact⟨ρq,ρK⟩):p:=h
theorem ξB {p:Prop} (h:p:=by have hp:(0:Int)<2 ^ k:=Int.pow_pos ρa;exact⟨Int.ediv_nonneg r0.1 ρa,Int.le_trans (Int.ediv_le_self _ r0.1) r0.2⟩):p:=h
theorem ξC {p:Prop} (h:p:=by go_ret2;refine⟨_,rfl,?_,⟨JU.below ρE JU.size,⟨LB,OU.below ρE,hA.out⟩,⟨_,Rt.below ρE,λj=>by rw[i6];show _=(if j=leaf then false else S.on j);split<;>simp[hO.out]⟩,⟨_,Qu.below ρE,by rw[Uh];exact VE.below ρE⟩,oB,oA,oO,oC⟩,Iz.step0 ρE⟩;(first|rw[LZ,JT.out]|rw[JT.out]);exact ae.below G2 ρE):p:=h
theorem ξD {p:Prop} (h:p:=by have IJ:¬(q:Int)<(n:Int):=ρo;have hd:=ZF IJ;change Hid _ at hi IK;clear IF;go_wp2;go_ret;exact⟨by rw[hi.out];rfl,(IB.step0 ρE).toBelow⟩):p:=h
theorem ξE {p:Prop} (h:p:=by
 simp only[];by_cases hj:j=i
 ·subst hj;simp
 ·simp[hj]):p:=h
theorem ξF {p:Prop} (h:p:=by have g:L 6=true:=ρg;have:=h.d6 g;simp[this]):p:=h
theorem ξG {p:Prop} (h:p:=by have Jr:z=false:=τH;subst Jr;replace hz:=ag hz;unfold CB;go_in;go_wp2;go_ret;exact⟨rfl,ρE⟩):p:=h
theorem ξH {p:Prop} (h:p:=by have g:L 10=true:=ρg;have:=h.d10 g;simp[this]):p:=h
theorem ξI {p:Prop} (h:p:=by rw[<- XV.out];simp only[PT.sz];omega):p:=h
theorem ξJ {p:Prop} (h:p:=by go_wp2_with fail;(first|go_end0|((try simp only[Exit.inBlock,Exit.then]);refine ZO (results_none rfl _ _ _) rfl ?_));exact⟨rfl,UZ,IB⟩):p:=h
theorem ξK {p:Prop} (h:p:=by
 constructor
 ·intro h j;have:=hl j;rw[List.eq_nil_of_length_eq_zero h] at this;simp only[lk] at this;cases e:m j with
  | none=>rfl
  | some p=>rw[e] at this;cases this
 ·intro h;cases L with
  | nil=>rfl
  | cons p r=>have:=hl p.1;rw[h] at this;obtain⟨a,b⟩:=p;simp[lk] at this):p:=h
theorem ξL {p:Prop} (h:p:=by have g:L 7=true:=ρg;have:=h.d7 g;simp[this]):p:=h
theorem ξM {p:Prop} (h:p:=by have g:L 8=true:=ρg;have:=h.d8 g;simp[this]):p:=h
theorem ξN {p:Prop} (h:p:=by have g:L 9=true:=ρg;have:=h.d9 g;simp[this]):p:=h
theorem ξO {p:Prop} (h:p:=by
 have d2:(c.id !=x.id)=true:=by simp[c2]
 have hy2:Y=(ys++[c])++putS x true r:=τq;clear Sq;replace hy2:=ag hy2;go_wp2_with (refine au Tryz.underlying27 dw rfl (λ_=>rfl) gB ρf ρf rfl (.tmp 33) (.tmp 35) rfl (w+1) (ζ ob ys.length oe) ys c v1 #[ι ε c.id,ι ε c.par,β c.lf,c.r0,c.r1,c.r2,c.l0,c.l1,c.l2,c.u0,c.u1,c.u2,ι ε c.pk,ι ε c.by_] rfl ρr ρr (H1.below ρE) ρB ρa ρJ ?_;intro o4 v4 H4 kx;replace kx:=kx.of_alloc;have C4:=C1.ko kx (ae.notown H1 ρa);have G4:=G1.ko kx (λy hy=>ae.notown H1 ρa);have X4:=X1.ko kx (λh=>ax (ae.own_ge H0 _ h.symm).2 ρa);have IC:KO (λ_=>False) w v4:=F'.trans kx σt;have UT:=IC.size;replace cC:=C4.cell;replace fC:=C4.frozen;replace zC:=C4.size;replace cX:=X4.cell;replace fX:=X4.frozen;replace zX:=X4.size);go_roundw;case rel=>exact⟨a++[c],r,true,ys++[c],by rw[ZL,hq.out];go_num,rfl,by rw[IF.out];simp,hy2.out,by simp;rw[hq.out];omega,ae.below H4 ρE,ρB,G4.below ρE,IC.step0 ρE⟩
 case measure=>exact ξc):p:=h
theorem ξP {p:Prop} (h:p:=by
 go_wp2_with fail;refine Zc (θ5 ID D3 G3 H3 X3) ?_;rintro v4 ⟨IC,D4,G4,H4,X4⟩;replace cX:=X4.cell;replace fX:=X4.frozen;replace zX:=X4.size;refine(hH v4 D4).mono ?_;rintro e v5 ⟨rfl,kx⟩;obtain⟨D5,G5,H5,X5,IN⟩:=Mw kx (θ5 D4 G4 H4 X4 IC);replace cX:=X5.cell;replace fX:=X5.frozen;replace zX:=X5.size;clear kx;go_wp2_with (refine au Tryz.underlying45 bD rfl (λ_=>rfl) ρI ρf ρf rfl (.tmp 46) (.tmp 48) rfl w (ζ (some ⟨gy,oy,none⟩) ym yc) ys n0 v5 #[ι ε n0] rfl ρr ρr (H5.below ρE) ρB ρa ρJ ?_;intro o6 v6 H6 kx;replace kx:=kx.of_alloc;have D6:=D5.ko kx (λy hy=>ae.notown H5 ρa);have G6:=G5.ko kx (λy hy=>ae.notown H5 ρa);have X6:=X5.ko kx (λh=>ae.ne_blk H5 X5 ρf h);have IQ:KO (λ_=>False) w v6:=IN.trans kx σS;have zk6:=IQ.size;replace cX:=X6.cell;replace fX:=X6.frozen;replace zX:=X6.size);go_roundw;case rel=>exact⟨a++[c],r,ys++[n0],by rw[ZL,hq.out];go_num,by rw[IF.out];simp,JQ.out,ae.below H6 ρE,D6.below ρE,G6.below ρE,IQ.step0 ρE⟩
 case measure=>exact ξc):p:=h
theorem ξQ {p:Prop} (h:p:=by
 go_wp2_with fail;refine Zc (θ5 ID D3 G3 H3 X3) ?_;rintro v4 ⟨IC,D4,G4,H4,X4⟩;replace cX:=X4.cell;replace fX:=X4.frozen;replace zX:=X4.size;refine(hH v4 D4).mono ?_;rintro e v5 ⟨rfl,kx⟩;obtain⟨D5,G5,H5,X5,IN⟩:=Mw kx (θ5 D4 G4 H4 X4 IC);replace cX:=X5.cell;replace fX:=X5.frozen;replace zX:=X5.size;clear kx;go_wp2_with (refine au Tryz.underlying45 bD rfl (λ_=>rfl) ρI ρf ρf rfl (.tmp 46) (.tmp 48) rfl w (ζ (some ⟨gy,oy,none⟩) ym yc) ys n1 v5 #[ι ε n1] rfl ρr ρr (H5.below ρE) ρB ρa ρJ ?_;intro o6 v6 H6 kx;replace kx:=kx.of_alloc;have D6:=D5.ko kx (λy hy=>ae.notown H5 ρa);have G6:=G5.ko kx (λy hy=>ae.notown H5 ρa);have X6:=X5.ko kx (λh=>ae.ne_blk H5 X5 ρf h);have IQ:KO (λ_=>False) w v6:=IN.trans kx σS;have zk6:=IQ.size;replace cX:=X6.cell;replace fX:=X6.frozen;replace zX:=X6.size);go_roundw;case rel=>exact⟨a++[c],r,ys++[n1],by rw[ZL,hq.out];go_num,by rw[IF.out];simp,JQ.out,ae.below H6 ρE,D6.below ρE,G6.below ρE,IQ.step0 ρE⟩
 case measure=>exact ξc):p:=h
theorem ξR {p:Prop} (h:p:=by
 go_wp2_with (refine au Tryz.underlying197 ep rfl (λ_=>rfl) ρI ρf ρf rfl (.tmp 21) (.tmp 24) rfl w (ζ ob os.length oe) os c.r1 v2 #[c.r1] rfl ρr ρr (H2.below ρE) ρB ρa ρJ ?_;intro o4 v4 H4 kx;replace kx:=kx.of_alloc;have G4:=G2.ko kx (λy hy=>ae.notown H2 ρa);have X4:=X2.ko kx (λh=>ae.ne_blk H2 X2 ρf h);have IC:KO (λ_=>False) w v4:=Iz.trans kx τ5;have UT:=IC.size;replace cX:=X4.cell;replace fX:=X4.frozen;replace zX:=X4.size);go_roundw;case rel=>exact⟨a++[c],r,os++[c.r1],by rw[ZL,hq.out];go_num,by rw[IF.out];simp,by simp;rw[hq.out];omega,λe=>ax e ρp,τ7,ae.below H4 ρE,G4.below ρE,(IC.step0 ρE).toBelow⟩
 case measure=>exact ξc):p:=h
theorem ξS {p:Prop} (h:p:=by
 have IJ:(q:Int)<(n:Int):=ρo;have hd:=ZT IJ;have Lz:xs[q]?=some x:=ρF;have IX:xs≠[]:=ρR;obtain⟨Tz,MX,g0,e0,JA,e1,_⟩:=ae.at H0 (λ_=>rfl);have e1:=e1 IX;obtain⟨rfl,_,rfl⟩:=ZV e0;subst e1;obtain⟨cx,gx,bx⟩:=HI.cell H0 q x Lz;have KL:q<n:=ρa;change Hid _ at hi IF hq hn JA IK;rcases Pp:p x with _|_
 ·replace Pp:=ag Pp;go_wp2_with (go_at_fn g;refine(hp x (by rw[IF.out];simp) _ (IB.step0 ρE).toBelow).mono ?_;rintro e v4 ⟨e0,kx⟩;rw[Pp.out] at e0;subst e0;have IC:KO (λ_=>False) w v4:=IB.step0 (Below.trans ρE (kx.mono ρp));have H4:=ae.below (ae.below H0 ρE) kx);go_roundw;case rel=>exact ξz
  case measure=>exact ξc
 ·exact ξy):p:=h
theorem ξT {p:Prop} (h:p:=by unfold CB;go_in;go_wp2_with (first|(go_at_call 229;refine(aK _ _ _ _).mono ?_;rintro e w' ⟨rfl,rfl⟩));go_ret;exact⟨rfl,ρE⟩):p:=h
theorem ξU {p:Prop} (h:p:=by go_upto_region 6 with (fail);refine bS (θ4 Je G8 S8 M8) ?_;clear Rr;rintro v9 ⟨Jl,G9,S9,M9⟩ Rr;have qS:=af S9;refine Wq ?_;refine pe ?_;refine bF (θ4 G9 S9 M9 Jl) ?_;clear Rr;rintro Lj ⟨Qw,S10,OZ,I7⟩ Rr;clear qS G9 S9 M9;exact ξl):p:=h
theorem ξV {p:Prop} (h:p:=by unfold CB;go_in;go_wp2;go_ret;exact⟨rfl,ρE⟩):p:=h
theorem ξW {p:Prop} (h:p:=by have g:L 1=true:=ρg;simpa using h.c1 g):p:=h
theorem ξX {p:Prop} (h:p:=by have g:L 2=true:=ρg;simpa using h.c2 g):p:=h
theorem ξY {p:Prop} (h:p:=by have g:L 3=true:=ρg;simpa using h.c3 g):p:=h
theorem ξZ {p:Prop} (h:p:=by have g:L 5=true:=ρg;simpa using h.c5 g):p:=h
theorem ξ0 {p:Prop} (h:p:=by have g:L 0=true:=ρg;simpa using h.c0 g):p:=h
theorem ξ1 {p:Prop} (h:p:=by go_quiet (fail);go_wp2;go_ret;have da':=da.out;have db':=db.out;exact⟨Fb τQ,ρE⟩):p:=h
theorem ξ2 {p:Prop} (h:p:=by
 go_wp2;go_roundw;case rel=>exact⟨K+1,by go_num,by have:=c7'.out;omega,G7.below ρE,ρB,M7.below ρE,E7.below ρE,ρB,P7.below ρE,Q7.below ρE,V7.below ρE,ρB,I8.step0 ρE⟩
 case measure=>have:=c7'.out;simp[intOf] at*;omega):p:=h
theorem ξ3 {p:Prop} (h:p:=by have g:L 10=true:=ρg;simpa using h.c10 g):p:=h
theorem ξ4 {p:Prop} (h:p:=by
 go_wp2_with fail;go_region
 all_goals
  go_wp2;go_roundw;case rel=>exact⟨i+1,by first|rfl|(congr 1;omega)|go_num,by omega,σe,⟨Y,hY,ρB⟩,IC.trans (G:=λx=>x=g) ρK (λ_ _ e=>e)⟩
  case measure=>exact ξe):p:=h
theorem ξ5 {p:Prop} (h:p:=by rw[PT.bal_bs] at hx;simp only[PT.bs,ZC,ZM] at hx ⊢;grind):p:=h
theorem ξ6 {p:Prop} (h:p:=by
 obtain⟨h1,h2,h3⟩:=h;obtain⟨k1,k2,k3⟩:=k;rcases h1 with h1|⟨j,q,hq,h1⟩<;>rcases k1 with k1|⟨j',q',RP,k1⟩
 ·omega
 ·have:=h3 j' q' RP;omega
 ·have:=k3 j q hq;omega
 ·have:=h3 j' q' RP;have:=k3 j q hq;omega):p:=h
theorem ξ7 {p:Prop} (h:p:=by rintro e v ⟨rfl,U1,k1⟩;go_wp2_with fail;(first|go_end0|((try simp only[Exit.inBlock,Exit.then]);refine ZO (results_none rfl _ _ _) rfl ?_));exact⟨rfl,U1.below ρE,(IB.trans k1 (λ_ _ e=>e)).step0 ρE⟩):p:=h
theorem ξ8 {p:Prop} (h:p:=by
 simp only[PT.bare,AT.items,ZM,ZC] at hy;rcases hy with hy|rfl|hy
 ·have:=o3 y hy;rw[hk] at this;exact ax (aG.lt_trans this IJ) (aG.lt_irrefl _)
 ·exact ax hk hi
 ·exact⟨y,hy,hk⟩):p:=h
theorem ξ9 {p:Prop} (h:p:=by have g:L 4=true:=ρg;simpa using h.c4 g):p:=h
theorem ηa {p:Prop} (h:p:=by have g:L 7=true:=ρg;simpa using h.c7 g):p:=h
theorem ηb {p:Prop} (h:p:=by obtain⟨PX,rfl,lX,g1,A1,R1,C1,N1,L1,X1⟩:=hcut;have Jf:=g1.size;have Ss:=θ5 A1.r R1.r C1.r N1.r L1.r;have cX:=X1.cell;have fX:=X1.frozen;have zX:=X1.size;go_wp2;exact Eb (w+1) (fW s) 236 rfl τa):p:=h
theorem ηc {p:Prop} (h:p:=by
 exfalso;unfold SS.put at e;split at e
 ·cases e
 ·simp only[hn] at e;cases e):p:=h
theorem ηd {p:Prop} (h:p:=by intro x hx h;simp only[PT.bs,ZC,ZM] at h ⊢;grind):p:=h
theorem ηe {p:Prop} (h:p:=by have l:=(am Tryz.underlying212 Θ h leaf (z:=φ #[Kz,Kz]) ρm).2;rw[hA leaf,ew,hc] at l;simp only[hs,hl,if_true,Option.getD_some,Ey,hq] at l;exact l):p:=h
theorem ηf {p:Prop} (h:p:=by have l:=(am Tryz.underlying212 Θ h i (z:=φ #[Kz,Kz]) ρm).2;rw[hA i,ew,hd] at l;simp only[Yh,if_true,Option.getD_some,Ey] at l;exact⟨_,l⟩):p:=h
theorem ηg {p:Prop} (h:p:=by
 go_roundw;case rel=>exact⟨a++[c],r,by rw[ZL,hq.out];go_num,by rw[IF.out];simp,by rw[hy2.out];exact ae.below H6 ρE,G6.below ρE,IQ.step0 ρE⟩
 case measure=>exact ξc):p:=h
theorem ηh {p:Prop} (h:p:=by
 simp only[PT.bare,AT.items,ZM,ZC] at hy;rcases hy with hy|rfl|hy
 ·exact⟨y,hy,hk⟩
 ·exact ax hk hi
 ·have:=o4 y hy;rw[hk] at this;exact ax this IJ):p:=h
theorem ηi {p:Prop} (h:p:=by exact⟨[i],⟨c,hc,rfl,by show fc L c.par=none;rw[h0];exact h.nz⟩,by simp,by simp[ph],λs=>⟨rfl,c,hc,s,h0⟩,λy hy=>.inl (by simpa using hy),[],rfl,λy hy=>by simp at hy⟩):p:=h
theorem ηj {p:Prop} (h:p:=by
 split
 ·rename_i g;obtain⟨h1,h2,h3⟩:=Classical.choose_spec g;show x<Classical.choose g;rcases h1 with e|⟨j,q,hq,e⟩
  ·rw[e];exact hx
  ·rw[e];exact h j q hq
 ·exact hx):p:=h
theorem ηk {p:Prop} (h:p:=by have hm:=hn.1 h0;subst h0;have HM:=ag hm;clear hm hn;go_wp2;go_ret;exact⟨_,rfl,⟨.inl rfl,ZJ _,λj q hq=>by rw[HM.out] at hq;cases hq⟩,Below.refl _ _⟩):p:=h
theorem ηl {p:Prop} (h:p:=by rw[fh,Lv.out];unfold aJ;split<;>first|rfl|(simp_all [gF];done)|(simp_all;done)):p:=h
theorem ηm {p:Prop} (h:p:=by go_in;go_wp2;go_ret;exact⟨⟨_,rfl⟩,hsame ρE⟩):p:=h
theorem ηn {p:Prop} (h:p:=by obtain⟨_,_,rfl⟩:=G4.slice;have h1:=MO.out;have h2:=IS.out;have h3:=Sr.out;simp only[lenOf,ZL,mM,List.length_nil] at h2 ⊢;omega):p:=h
theorem ηo {p:Prop} (h:p:=by go_wp2;go_ret;exact⟨rfl,Iz.toBelow.trans ρE⟩):p:=h
theorem ηp {p:Prop} (h:p:=by
 obtain rfl:z=false:=by rw[<- hz.out];exact ZF (λh=>by have h2:=h.2 c Ku;omega)
 go_wp2;go_ret;exact⟨rfl,(F'.step0 ρE).toBelow⟩):p:=h
theorem ηq {p:Prop} (h:p:=by rcases a with ⟨⟨a1,a2⟩,⟨a3,a4⟩⟩;rcases b with ⟨⟨b1,b2⟩,⟨b3,b4⟩⟩;unfold better;split<;>(simp only[NoB,aG.lt,aG.mk.injEq] at*;omega)):p:=h
theorem ηr {p:Prop} (h:p:=by
 unfold SS.wake1 SS.setE aw;simp only[];by_cases hj:j=y
 ·subst hj;simp
 ·simp[hj]):p:=h
theorem ηs {p:Prop} (h:p:=by exfalso;have g:L 8=true:=ρg;have:=h.d8 g;simp[hi] at this):p:=h
theorem ηt {p:Prop} (h:p:=by exfalso;have g:L 9=true:=ρg;have:=h.d9 g;simp[hi] at this):p:=h
theorem ηu {p:Prop} (h:p:=by clear C1 R1;obtain⟨X,rfl,rfl,g2,R2,X2⟩:=hcut;have cX:=X2.cell;have Ss:=R2.r;have zX:=X2.size;go_wp2;exact Eb (w+1) (mi s) 232 rfl τV):p:=h
theorem ηv {p:Prop} (h:p:=by go_in;go_wp2_with fail;refine ZO (v:=χ #[Kn,dI]) τT rfl ?_;exact⟨none,0,0,1,rfl,λh=>ax h ρf,ρE⟩):p:=h
theorem ηw {p:Prop} (h:p:=by refine⟨?_,hB.frozen _⟩;rw[hB.cell,Array.getElem?_eq_getElem ρa];rfl):p:=h
theorem ηx {p:Prop} (h:p:=by go_wp2;go_ret;exact⟨1,L,rfl,⟨Kt.below ρE Kt.size,Nw.below ρE,Jo⟩,λh=>ax h ρa,λ_=>rfl,IC.step0 ρE⟩):p:=h
theorem ηy {p:Prop} (h:p:=by unfold CB;go_in;go_wp2;go_ret;have ea':=ea.out;have eb':=eb.out;exact⟨dP (by unfold kG;rw[ZI ρa,ZI ρa]),by go_grown⟩):p:=h
theorem ηz {p:Prop} (h:p:=by exact h _ hb (λK u hK hu=>Below.setCells hK _ _ _ hu) (λb c s IX ZQ=>ah.setCells_other IX _ _ _ ZQ) (ey B _ _ _)):p:=h
theorem ηA {p:Prop} (h:p:=by rw[hd] at LS;cases LS;rw[KZ] at N5;cases N5):p:=h
theorem ηB {p:Prop} (h:p:=by
 go_in;go_wp2
 all_goals first
  | (exfalso;omega)
  | (go_ret;exact⟨dP (by have:=Hr.out;first | omega | (split<;>omega)),ρE⟩)):p:=h
theorem ηC {p:Prop} (h:p:=by exact bJ (w+1+1+1) (dB r.has r.D r.E r.p r.e r.t) 238 _ _ _ Tryz.results154 ρr Bv Tryz.underlying238 rfl ρh):p:=h
theorem ηD {p:Prop} (h:p:=by have g:L 8=true:=ρg;simpa using h.c8 g):p:=h
theorem ηE {p:Prop} (h:p:=by have g:L 9=true:=ρg;simpa using h.c9 g):p:=h
theorem ηF {p:Prop} (h:p:=by
 have:=iF (gH x false h.nd) c hc;rw[hf] at this;split at this
 ·cases this;exact .inl rfl
 ·exact .inr (cG this).1):p:=h
theorem ηG {p:Prop} (h:p:=by
 unfold fc at h;split at h
 ·rename_i e;cases h;exact⟨by simp,e.symm⟩
 ·exact⟨rt _ (ih h).1,(ih h).2⟩):p:=h
theorem ηH {p:Prop} (h:p:=by rintro e w' ⟨a,b,c,v,z',p',y',l',rfl,e1,e2,e3,e4,e5,e6,e7,e8,_,e9,Ph,_⟩;exact fin e1 (JY ▸ e2) e3 e4 e5 e6 e7 e8 e9 τI):p:=h
theorem ηI {p:Prop} (h:p:=by exact⟨λi=>by unfold eJ;rw[ZI ρf,n6,iE,h.fc];rfl,by unfold eJ;rw[ZI ρf];exact lH x h.nd⟩):p:=h
theorem ηJ {p:Prop} (h:p:=by exact bJ (w+1) (dB r.has r.D r.E r.p r.e r.t) 238 _ _ _ Tryz.results219 ρr Bv Tryz.underlying238 rfl ρh):p:=h
theorem ηK {p:Prop} (h:p:=by unfold CB;go_in;go_wp2;go_ret;have ea':=ea.out;have eb':=eb.out;exact⟨dP (by unfold kG;rw[ZP ρa]),by go_grown⟩):p:=h
theorem ηL {p:Prop} (h:p:=by unfold SS.duesTo SS.setE aw;simp only[];split<;>rename_i e<;>first|(rw[e];exact⟨rfl,rfl⟩)|exact⟨rfl,rfl⟩):p:=h
theorem ηM {p:Prop} (h:p:=by exact .inl (ZD.1 (hP c hc).nd).2):p:=h
theorem ηN {p:Prop} (h:p:=by exact⟨a,b,h1,h2.ko (KO.of_below (F:=λ_=>False) k) (λ_ _ f=>f),λx hx=>(ho _ (h2.lt hx)).trans (h3 x hx)⟩):p:=h
theorem ηO {p:Prop} (h:p:=by have:=MY.out;simp[intOf] at*;omega):p:=h
theorem ηP {p:Prop} (h:p:=by generalize 1+max l.high r.high=H at*;generalize 1+l.many+r.many=M at*;have cb:=hb.cell;have zb:=hb.size;exact ξx):p:=h
theorem ηQ {p:Prop} (h:p:=by go_wp2;go_ret;exact⟨rfl,IB.toBelow.trans ρE⟩):p:=h
theorem ηR {p:Prop} (h:p:=by go_wp2;go_ret;exact⟨rfl,ρE⟩):p:=h
theorem ηS {p:Prop} (h:p:=by
 go_wp2;go_roundw;case rel=>exact⟨i+1,rfl,by omega,by omega,U2.us,Iz⟩
 case measure=>exact ξe):p:=h
theorem ηT {p:Prop} (h:p:=by
 rcases hc with ⟨h1,h2,rfl⟩|⟨h1,h2,rfl⟩
 ·exact .inl ⟨n,h1,h2,rfl⟩
 ·exact .inr ⟨h2,rfl⟩):p:=h
theorem ηU {p:Prop} (h:p:=by
 rcases Nat.lt_or_ge x w with hl|hl
 ·rw[aT.more_lt hl];exact hf x hx
 ·exact aT.more_ge hl):p:=h
theorem ηV {p:Prop} (h:p:=by
 obtain⟨d,_,_,_,g⟩:=(h.kk q i).1 hm;rw[hoi,hK0] at g;rcases g with g|g
 ·cases g
 ·exact g rfl):p:=h
theorem ηW {p:Prop} (h:p:=by exact⟨0,Nat.zero_le _,rfl,by simp⟩):p:=h
theorem ηX {p:Prop} (h:p:=by have:=(gm now r (s.wake1 now y)).2.2.2.2.1 j;rw[this.2.2.2.2 (by rw[hj];exact hn.1),g5 hj]):p:=h
theorem ηY {p:Prop} (h:p:=by
 have:aJ m id none=m:=funext λj=>by unfold aJ;split<;>simp_all
 rw[this];exact H.below h2):p:=h
theorem ηZ {p:Prop} (h:p:=by
 simp only[fc];by_cases e:i=c.id
 ·rw[ZP e,ZI ρa,ZP e]
 ·rw[ZI e,ZI e,ih]):p:=h
theorem η0 {G H:Prop} (h:H)(f:PLift H->G:=by
 intro Zz;have f1:pM id 1 65536=true:=ZT My;have f2:pM par 0 65536=true:=ZT Jy;have f3:(par==id)=false:=ZN.2 ρa;have i0:∀v,(Instr.index 350 (φ #[r0,r1,r2,l0,l1,l2,u0,u1,u2]) Kz).run Ψ v=.ok (φ (aP r0 r1 r2)) v:=λ_=>by kernel_rfl
 have i1:∀v,(Instr.index 350 (φ #[r0,r1,r2,l0,l1,l2,u0,u1,u2]) Ko).run Ψ v=.ok (φ (aP l0 l1 l2)) v:=λ_=>by kernel_rfl
 have i2:∀v,(Instr.index 350 (φ #[r0,r1,r2,l0,l1,l2,u0,u1,u2]) (ι ε 2)).run Ψ v=.ok (φ (aP u0 u1 u2)) v:=λ_=>by kernel_rfl
 revert i2;revert i1;revert i0;revert f3;revert f2;revert f1;exact Zz.down):G:=f ⟨h⟩
theorem η1 {G H:Prop} (h:H)(f:PLift H->G:=by intro Zz;refine bS (θ4 Je G8 S8 M8) ?_;rintro v9 ⟨Jl,G9,S9,M9⟩ Rr;replace K7:=(az.cell M9 I3.out 1 (u:=ι ε a.par) rfl);replace K8:=(az.cell M9 Jx.out 1 (u:=ι ε b.par) rfl);replace KH:=(az.cell M9 I3.out 8 (u:=a.l2) rfl);replace K9:=(az.cell M9 Jx.out 8 (u:=b.l2) rfl);have qS:=af S9;have WU:=λd os=>(az.cell (M9.below (ZW _ d os)) I3.out 1 (u:=ι ε a.par) rfl);have WV:=λd os=>(az.cell (M9.below (ZW _ d os)) Jx.out 1 (u:=ι ε b.par) rfl);have WW:=λd os=>(az.cell (M9.below (ZW _ d os)) I3.out 8 (u:=a.l2) rfl);have WX:=λd os=>(az.cell (M9.below (ZW _ d os)) Jx.out 8 (u:=b.l2) rfl);refine Wq ?_;revert WX;revert WW;revert WV;revert WU;revert qS;revert K9;revert KH;revert K8;revert K7;revert Rr;revert M9;revert S9;revert G9;revert Jl;revert v9;exact Zz.down):G:=f ⟨h⟩
theorem η2 {G H:Prop} (h:H)(f:PLift H->G:=by intro Zz;have g1:=Tg w IG;have Jf:=IG.size;(try simp at Jf);revert Jf;revert g1;exact Zz.down):G:=f ⟨h⟩
theorem η3 {G H:Prop} (h:H)(f:PLift H->G:=by intro Zz;have A1:ah w1 w #[Xa,(hi (Ya)),(lo (Ya)),Ma] 234:=ah.below NP IG NP.size;have B1:ah w1 (w+1) #[Xb,(hi (Yb)),(lo (Yb)),Mb] 234:=ah.below SQ IG SQ.size;have R1:ah w1 (w+1+1) fD 234:=ah.below Te IG Te.size;have g1:Below w w w1:=OE.trans (IG.mono OE.size);have Jf:w.heap.size<=w1:=g1.size;have Rr:=θ3 A1.r B1.r R1.r;revert Rr;revert Jf;revert g1;revert R1;revert B1;revert A1;exact Zz.down):G:=f ⟨h⟩
theorem η4 {G H:Prop} (h:H)(f:PLift H->G:=by
 intro Zz;have x0:∀(x y:ϗ) v,(Instr.index 370 (φ #[x,y]) Kz).run Ψ v=.ok x v:=λ_ _ _=>by kernel_rfl
 have x1:∀(x y:ϗ) v,(Instr.index 370 (φ #[x,y]) Ko).run Ψ v=.ok y v:=λ_ _ _=>by kernel_rfl
 revert x1;revert x0;exact Zz.down):G:=f ⟨h⟩
theorem η5 {G H:Prop} (h:H)(f:PLift H->G:=by intro Zz;have nm:(m==0)=false:=ZN.2 ρa;have nd:(d==0)=false:=ZN.2 ρa;revert nd;revert nm;exact Zz.down):G:=f ⟨h⟩
theorem η6 {G H:Prop} (h:H)(f:PLift H->G:=by intro Zz;refine aI (λv=>Below w w v/\ah v w #[Xa,(hi (Ya)),(lo (Ya)),Ma] 234/\ah v (w+1) #[Xb,(hi (Yb)),(lo (Yb)),Mb] 234/\ah v (w+1+1) fD 234) ⟨ρE,ρB,ρB,ρB⟩ ?_;rintro v1 ⟨OE,NP,SQ,Te⟩;have SO:=af NP;have WT:=af SQ;have WY:=af Te;refine Wq ?_;revert WY;revert WT;revert SO;revert Te;revert SQ;revert NP;revert OE;revert v1;exact Zz.down):G:=f ⟨h⟩
theorem η7 {G H:Prop} (h:H)(f:PLift H->G:=by intro Zz;have Yt:=aB B' M';have Rb:=aB T'.1 M';have Yu:=dV B' T'.1 ρf;have Rc:=aR.ne_map M' T'.2.1;have RT:=aR.ne_blk B' ρf T'.2.1;have zT:=T'.1.size;have zM:=M'.size;have zB:=B'.size;have zb:=T'.2.1.lt;revert zb;revert zB;revert zM;revert zT;revert RT;revert Rc;revert Yu;revert Rb;revert Yt;exact Zz.down):G:=f ⟨h⟩
theorem η8 {G H:Prop} (h:H)(f:PLift H->G:=by intro Zz;have IJ:¬(q:Int)<(n:Int):=ρo;have hd:=ZF IJ;revert hd;revert IJ;exact Zz.down):G:=f ⟨h⟩
theorem η9 {G H:Prop} (h:H)(f:PLift H->G:=by intro Zz;have g2:=Tg w IW;have Jr:=IW.size;(try simp at Jr);revert Jr;revert g2;exact Zz.down):G:=f ⟨h⟩
theorem δa {G H:Prop} (h:H)(f:PLift H->G:=by intro Zz;refine(iM b.val a.val _ _ k1.out).mono ?_;rintro e w1 ⟨rfl,IG⟩;have A1:ah w1 w (fU a.key.pos a.key.id a.val.pos a.val.id) 335:=Zv IG;have B1:ah w1 (w+1) (fU b.key.pos b.key.id b.val.pos b.val.id) 335:=Zv IG;have R1:ah w1 (w+1+1) (fU 0 0 0 0) 335:=Zv IG;revert R1;revert B1;revert A1;revert IG;revert w1;exact Zz.down):G:=f ⟨h⟩
theorem δb {G H:Prop} (h:H)(f:PLift H->G:=by intro Zz;have IJ:(q:Int)<(n:Int):=ρo;have hd:=ZT IJ;revert hd;revert IJ;exact Zz.down):G:=f ⟨h⟩
theorem δc {G H:Prop} (h:H)(f:PLift H->G:=by intro Zz;refine(nF W Y x _ hW hY Hc.out).mono ?_;rintro e w1 ⟨rfl,IG⟩;have A1:ah w1 w #[X,(hi (Y)),(lo (Y)),M] 234:=Zv IG;have W1:ah w1 (w+1) (mi W) 232:=Zv IG;revert W1;revert A1;revert IG;revert w1;exact Zz.down):G:=f ⟨h⟩
theorem δd {G H:Prop} (h:H)(f:PLift H->G:=by intro Zz;unfold Oper.wp execOp;simp only[ho,resolve,invoke,builtin,Sem.run_bind,Sem.run_pure,Result.andThen_ok,List.map_toArray,gY,List.map_nil,hs,hx,hr];exact Zz.down):G:=f ⟨h⟩
theorem δe {G H:Prop} (h:H)(f:PLift H->G:=by intro Zz;have zw:=IB.size;have IK:a.length+b.length=n:=ρy;obtain⟨q,hq⟩:=Nq a.length;revert hq;revert q;revert IK;revert zw;exact Zz.down):G:=f ⟨h⟩
theorem δf {G H:Prop} (h:H)(f:PLift H->G:=by intro Zz;have cR:∀v,aR v (r)->Calls Ψ 272 #[(r).ptr] v λe w'=>e=ϰ (ι ε H2)/\v=w':=λv h=>fF (r) H2 v h e2;have ca:∀v,aR v (a)->Calls Ψ 272 #[(a).ptr] v λe w'=>e=ϰ (ι ε G1)/\v=w':=λv h=>fF (a) G1 v h e3;revert ca;revert cR;exact Zz.down):G:=f ⟨h⟩
theorem δg {G H:Prop} (h:H)(f:PLift H->G:=by intro Zz;have nn:(n==0)=false:=ZN.2 ρa;have aV:=df (Md<m);have bX:=df (Md<n);revert bX;revert aV;revert nn;exact Zz.down):G:=f ⟨h⟩
theorem δh {G H:Prop} (h:H)(f:PLift H->G:=by intro Zz;refine(bU l0 l1 l2 _ _ hl.1 hl.2.1 hl.2.2 rfl).mono ?_;rintro e w3 ⟨rfl,JJ⟩;have A3:=A2.tr JJ;have OA:=MW.tr JJ;have g3:=Tg w JJ;have LD:=JJ.size;(try simp at LD);clear JJ;replace Rr:=θ2 A3.r OA.r;revert Rr;revert LD;revert g3;revert OA;revert A3;revert w3;exact Zz.down):G:=f ⟨h⟩
theorem δi {G H:Prop} (h:H)(f:PLift H->G:=by intro Zz;obtain⟨n,hn⟩:=Nq L.length;rw[hn] at G hl ⊢;have zB:B<=w:=ρu;revert zB;revert hl;revert G;revert hn;revert n;exact Zz.down):G:=f ⟨h⟩
theorem δj {G H:Prop} (h:H)(f:PLift H->G:=by intro Zz;rintro e w1 ⟨rfl,IG⟩;have C1:ah w1 w (aP m d n) 41:=Zv IG;revert C1;revert IG;revert w1;exact Zz.down):G:=f ⟨h⟩
theorem δk {G H:Prop} (h:H)(f:PLift H->G:=by intro Zz;refine Zw (θ2 IB U0) ?_;rintro v1 ⟨F',U1⟩;replace I':=U1.size;have JN:=λd os=>(U1.below (ZW _ d os)).size;refine Wq ?_;revert JN;revert I';revert U1;revert F';revert v1;exact Zz.down):G:=f ⟨h⟩
theorem δl {G H:Prop} (h:H)(f:PLift H->G:=by intro Zz;rintro v1 A1 ⟨F',B1,L1,R1⟩;replace cB:=B1.cell;replace fB:=B1.frozen;replace zB:=B1.size;replace cA:=A1.cell;replace fA:=A1.frozen;replace zA:=A1.size;have qB:=af B1;have qA:=af A1;refine Wq ?_;refine pe ?_;refine Zq (θ5 B1 L1 R1 A1 F') ?_;rintro v2 ⟨B2,L2,R2,A2,Iz⟩;replace cB:=B2.cell;replace fB:=B2.frozen;replace zB:=B2.size;replace cA:=A2.cell;replace fA:=A2.frozen;replace zA:=A2.size;clear qB qA B1 L1 R1 A1;revert zA;revert fA;revert cA;revert zB;revert fB;revert cB;revert Iz;revert A2;revert R2;revert L2;revert B2;revert v2;revert F';revert v1;exact Zz.down):G:=f ⟨h⟩
theorem δm {G H:Prop} (h:H)(f:PLift H->G:=by intro Zz;have KT:=λd os=>(U1.below (ZW _ d os)).size;refine Wq ?_;revert KT;exact Zz.down):G:=f ⟨h⟩
theorem δn {G H:Prop} (h:H)(f:PLift H->G:=by intro Zz;have N:=F.num h.num h.inv (λy hy=>eA P.up y hy);have O:YS.Ok0 {y with s:=s',ev:=y.ev++[⟨op,true,false,y.clk,0,i,p⟩]}:=⟨I,N,⟨by show SS.clk _<=_;rw[F.clk];exact ZJ _,h.clk.2⟩,by show 1<=SS.T _/\SS.T _<=_;rw[F.T];exact h.tt,h.til⟩;revert O;revert N;exact Zz.down):G:=f ⟨h⟩
theorem δo {G H:Prop} (h:H)(f:PLift H->G:=by intro Zz;refine(bK l0 l1 l2 _ hl true ql).mono ?_;rintro e w2 ⟨rfl,IW⟩;have A2:=A1.tr IW;have MW:ah w2 w1 (aP l0 l1 l2) 41:=Zv IW;revert MW;revert A2;revert IW;revert w2;exact Zz.down):G:=f ⟨h⟩
theorem δp {G H:Prop} (h:H)(f:PLift H->G:=by intro Zz;refine Jw (θ6 (Ks (λx=>x ∈ (PT.node b l i r).bs) w) B L R Kb Vb) (λv=>ah v w #[k.pos,ι ε k.id] 333) ρB ?_;rintro v1 A1 ⟨F',B1,L1,R1,Ng,Oy⟩;replace cB:=B1.cell;replace fB:=B1.frozen;replace zB:=B1.size;replace KX:=Ng.cell;replace KY:=Ng.frozen;replace Lb:=Ng.size;replace LI:=Oy.cell;replace LJ:=Oy.frozen;replace Mk:=Oy.size;replace cA:=A1.cell;replace fA:=A1.frozen;replace zA:=A1.size;have qB:=af B1;have qKb:=af Ng;have qVb:=af Oy;have qA:=af A1;refine Wq ?_;refine pe ?_;refine Zq (θ7 B1 L1 R1 Ng Oy A1 F') ?_;rintro v2 ⟨B2,L2,R2,Nv,Pd,A2,Iz⟩;replace cB:=B2.cell;replace fB:=B2.frozen;replace zB:=B2.size;replace KX:=Nv.cell;replace KY:=Nv.frozen;replace Lb:=Nv.size;replace LI:=Pd.cell;replace LJ:=Pd.frozen;replace Mk:=Pd.size;replace cA:=A2.cell;replace fA:=A2.frozen;replace zA:=A2.size;clear qB qKb qVb qA B1 L1 R1 Ng Oy A1;revert zA;revert fA;revert cA;revert Mk;revert LJ;revert LI;revert Lb;revert KY;revert KX;revert zB;revert fB;revert cB;revert Iz;revert A2;revert Pd;revert Nv;revert R2;revert L2;revert B2;revert v2;revert F';revert v1;exact Zz.down):G:=f ⟨h⟩
theorem δq {G H:Prop} (h:H)(f:PLift H->G:=by intro Zz;rintro e w1 ⟨rfl,IG⟩;have A1:ah w1 w (kE id par lf r0 r1 r2 l0 l1 l2 u0 u1 u2 pk by_) 43:=Zv IG;revert A1;revert IG;revert w1;exact Zz.down):G:=f ⟨h⟩
theorem δr {G H:Prop} (h:H)(f:PLift H->G:=by intro Zz;have PA:decide (Md<m)=true:=ZT y0;have aV:=df (m<Md);revert aV;revert PA;exact Zz.down):G:=f ⟨h⟩
theorem δs {G H:Prop} (h:H)(f:PLift H->G:=by intro Zz;refine eu v2 (λx=>x=(w.heap.size+1)) (λv=>ah v ((w+1)) #[ζ sa sn sc,ι ε m] 112) ρB (λ_ kx=>kx) ?_;rintro v9 R9 k9;have Kd:=R9.cell;refine ZO (v:=φ #[ζ sa sn sc,ι ε m]) τx rfl ?_;revert Kd;revert k9;revert R9;revert v9;exact Zz.down):G:=f ⟨h⟩
theorem δt {G H:Prop} (h:H)(f:PLift H->G:=by intro Zz;refine(bU m d n k _ hm.1 hd.1 hn.1 Hk.out).mono ?_;exact Zz.down):G:=f ⟨h⟩
theorem δu {G H:Prop} (h:H)(f:PLift H->G:=by intro Zz;rintro e w4 ⟨rfl,Ls⟩;have A4:=A3.tr Ls;have Pf:ah w4 w3 (aP u0 u1 u2) 41:=Zv Ls;have g4:=Tg w Ls;have RR:=Ls.size;(try simp at RR);clear Ls;replace Rr:=θ2 A4.r Pf.r;revert Rr;revert RR;revert g4;revert Pf;revert A4;revert w4;exact Zz.down):G:=f ⟨h⟩
theorem δv {G H:Prop} (h:H)(f:PLift H->G:=by intro Zz;have nn:(n==0)=false:=ZN.2 ρa;have aV:=df (Md<m);have VX:decide (Md<n)=true:=ZT y1;have bX:=df (n<Md);revert bX;revert VX;revert aV;revert nn;exact Zz.down):G:=f ⟨h⟩
theorem δw {G H:Prop} (h:H)(f:PLift H->G:=by intro Zz;have z3:0<=H2/\H2<=1099511627776/\H1<=1099511627776/\0<=H1:=ρ3;have s_a:=ag (show a.many<=1099511627776 by simp only[PT.many];omega);revert s_a;revert z3;exact Zz.down):G:=f ⟨h⟩
theorem δx {G H:Prop} (h:H)(f:PLift H->G:=by intro Zz;refine(Cm r M v e _ Mn hM H.out).mono ?_;rintro e w3 ⟨rfl,JJ⟩;have A3:=A2.tr JJ;have g3:=Tg w JJ;have LD:=JJ.size;(try simp at LD);clear JJ;revert LD;revert g3;revert A3;revert w3;exact Zz.down):G:=f ⟨h⟩
theorem δy {G H:Prop} (h:H)(f:PLift H->G:=by intro Zz;have lM:=(am Ω Θ M' id (z:=φ (bL ⟨⟨0,0⟩,⟨0,0⟩⟩)) ρm).1;rw[hl,hm] at lM;revert lM;exact Zz.down):G:=f ⟨h⟩
theorem δz {G H:Prop} (h:H)(f:PLift H->G:=by intro Zz;refine bS (θ7 NH C21 G21 T21 E21 Xq X21) ?_;rintro OT ⟨Lf,RX,Px,QD,Ot,Ow,Rz⟩ Rr;replace rT:=QD.r;replace MQ:=(ll Ot);have qT:=af QD;have P':=λd os=>(ll (Ot.below (ZW _ d os)));have qX:=af Rz;refine Wq ?_;revert qX;revert P';revert qT;revert MQ;revert rT;revert Rr;revert Rz;revert Ow;revert Ot;revert QD;revert Px;revert RX;revert Lf;revert OT;exact Zz.down):G:=f ⟨h⟩
theorem δA {G H:Prop} (h:H)(f:PLift H->G:=by intro Zz;refine bS (θ6 IC H4 Nh PB4 J1 Q4) ?_;rintro v5 ⟨IN,H5,Ln,TN,JO,Q5⟩ Rr;replace IT:=(aj.c0 JO);replace I5:=((aj.c3 JO).trans σv);have MH:=af Ln;have Rh:=af TN;have Jh:=λd os=>(aj.c0 (JO.below (ZW _ d os)));have Jt:=λd os=>((aj.c3 (JO.below (ZW _ d os))).trans σv);refine Wq ?_;refine pe ?_;refine bF (θ6 H5 Ln TN JO Q5 IN) ?_;clear Rr;rintro v6 ⟨H6,Nx,TO,KC,Q6,IQ⟩ Rr;replace IT:=(aj.c0 KC);replace I5:=((aj.c3 KC).trans σv);clear MH Rh Jh Jt H5 Ln TN JO Q5;revert I5;revert IT;revert Rr;revert IQ;revert Q6;revert KC;revert TO;revert Nx;revert H6;revert v6;revert IN;revert v5;exact Zz.down):G:=f ⟨h⟩
theorem δB {G H:Prop} (h:H)(f:PLift H->G:=by intro Zz;rintro e w1 ⟨rfl,IG⟩;have A1:ah w1 w (bv n) 70:=Zv IG;have R1:ah w1 (w+1) #[Ky,Kz] 104:=Zv IG;revert R1;revert A1;revert IG;revert w1;exact Zz.down):G:=f ⟨h⟩
theorem δC {G H:Prop} (h:H)(f:PLift H->G:=by intro Zz;have nn:(n==0)=false:=ZN.2 ρa;have PA:decide (Md<n)=true:=ZT y0;have aV:=df (n<Md);revert aV;revert PA;revert nn;exact Zz.down):G:=f ⟨h⟩
theorem δD {G H:Prop} (h:H)(f:PLift H->G:=by intro Zz;refine jf (θ3 IB S0 G0) (λv=>ah v wr #[ι ε c.k,(ζ ca c.ch.length cc),(ζ rb c.rl.length rc),c.pk.id,ι ε c.pk.len,ι ω c.pk.h0,ι ω c.pk.h1,ι ω c.pk.h2,ι ω c.pk.h3,c.tk] 80) ρB ?_;exact Zz.down):G:=f ⟨h⟩
theorem δE {G H:Prop} (h:H)(f:PLift H->G:=by intro Zz;refine δj ?_;intro w1 IG C1;have Y1:ah w1 (w+1) (mi y) 232:=Zv IG;have R1:ah w1 (w+1+1) nk 236:=Zv IG;refine η2 ?_;intro g1 Jf;clear IG;revert Jf;revert g1;revert R1;revert Y1;revert C1;revert w1;exact Zz.down):G:=f ⟨h⟩
theorem δF {G H:Prop} (h:H)(f:PLift H->G:=by intro Zz;refine δb ?_;intro IJ hd;have Jm:L[q]?=some c:=ρF;have KL:q<n:=ρa;revert KL;revert Jm;revert hd;revert IJ;exact Zz.down):G:=f ⟨h⟩
theorem δG {G H:Prop} (h:H)(f:PLift H->G:=by intro Zz;refine(FH W Y r _ hW hY Hr.out Mn).mono ?_;rintro e w2 ⟨rfl,IW⟩;have A2:=A1.tr IW;have W2:=W1.tr IW;refine η9 ?_;intro g2 Jr;clear IW;replace Rr:=θ2 A2.r W2.r;revert Rr;revert Jr;revert g2;revert W2;revert A2;revert w2;exact Zz.down):G:=f ⟨h⟩
theorem δH {G H:Prop} (h:H)(f:PLift H->G:=by intro Zz;refine(bU u0 u1 u2 _ _ hu.1 hu.2.1 hu.2.2 rfl).mono ?_;rintro e w5 ⟨rfl,JF⟩;have A5:=A4.tr JF;have RC:=Pf.tr JF;have g5:=Tg w JF;have QZ:=JF.size;(try simp at QZ);clear JF;replace Rr:=θ2 A5.r RC.r;revert Rr;revert QZ;revert g5;revert RC;revert A5;revert w5;exact Zz.down):G:=f ⟨h⟩
theorem δI {G H:Prop} (h:H)(f:PLift H->G:=by intro Zz;have nd:(d==0)=false:=ZN.2 ρa;have nn:(n==0)=false:=ZN.2 ρa;have aV:=df (Md<n);revert aV;revert nn;revert nd;exact Zz.down):G:=f ⟨h⟩
theorem δJ {G H:Prop} (h:H)(f:PLift H->G:=by intro Zz;have C2:ah w2 (w+1) (aP m d n) 41:=ah.below Qv IW Qv.size;have N2:ah w2 (w+1+1) #[x] 39:=ah.below Qy IW Qy.size;have R2:ah w2 (w+1+1+1) mE 238:=ah.below Zh IW Zh.size;have g2:Below w w w2:=gv2.trans (IW.mono gv2.size);have Jr:w.heap.size<=w2:=g2.size;have Rr:=θ4 L2.r C2.r N2.r R2.r;revert Rr;revert Jr;revert g2;revert R2;revert N2;revert C2;exact Zz.down):G:=f ⟨h⟩
theorem δK {G H:Prop} (h:H)(f:PLift H->G:=by intro Zz;refine dW wr (λv=>KO (λ_=>False) w v) (λv=>KO (λ_=>False) w v/\ah v w (fU j.key.pos j.key.id j.val.pos j.val.id) 335) ((Iz.trans (show KO (λx=>x=w.heap.size) _ _ from ρK) ρc)) (λkx=>⟨kx,ρB⟩) ?_;exact Zz.down):G:=f ⟨h⟩
theorem δL {G H:Prop} (h:H)(f:PLift H->G:=by intro Zz;refine Jc (θ2 (Ks (λ_=>False) w) G) (λv=>ah v w (fx x) 43/\ah v (w+1) #[Kn,Kz] 112) ⟨ρB,ρB⟩ ?_;rintro v1 ⟨C1,R1⟩ ⟨F',G1⟩;have Rr:=θ2 C1.r R1.r;refine(vV x.id x.par x.lf x.r0 x.r1 x.r2 x.l0 x.l1 x.l2 x.u0 x.u1 x.u2 x.pk x.by_ v1 hx.1 hx.2.1 hx.2.2 cw XR.out).mono ?_;rintro e v2 ⟨rfl,kx⟩;clear Rr;obtain⟨⟨G2,C2,R2,Iz⟩,Rr⟩:=Mx kx (θ4 G1 C1 R1 F');clear kx;revert Rr;revert Iz;revert R2;revert C2;revert G2;revert v2;revert G1;revert F';revert R1;revert C1;revert v1;exact Zz.down):G:=f ⟨h⟩
theorem δM {G H:Prop} (h:H)(f:PLift H->G:=by intro Zz;simp only[PT.Apart,PT.bs,ZC,ZM,not_or] at ap;have Np:=(AT.high_many r.bare).2.1;have WZ:=AT.high_many a.bare;revert WZ;revert Np;revert ap;exact Zz.down):G:=f ⟨h⟩
theorem δN {G H:Prop} (h:H)(f:PLift H->G:=by intro Zz;rintro e w1 ⟨rfl,IG⟩;refine η2 ?_;intro g1 Jf;clear IG;revert Jf;revert g1;revert w1;exact Zz.down):G:=f ⟨h⟩
theorem δO {G H:Prop} (h:H)(f:PLift H->G:=by intro Zz;refine(bK r0 r1 r2 _ hr true qr).mono ?_;refine δq ?_;intro w1 IG A1;refine η2 ?_;intro g1 Jf;clear IG;have Rr:=A1.r;revert Rr;revert Jf;revert g1;revert A1;revert w1;exact Zz.down):G:=f ⟨h⟩
theorem δP {G H:Prop} (h:H)(f:PLift H->G:=by intro Zz;have k2:KO (λy=>y=M) w v:=(KO.of_below (F:=λy=>y=M) ρE).trans kx (λ_ _ h=>h);have z2:=k2.size;revert z2;revert k2;exact Zz.down):G:=f ⟨h⟩
theorem δQ {G H:Prop} (h:H)(f:PLift H->G:=by intro Zz;refine(GR p z 0 0 T Lm cv rv xpk xtk L2 Pn w H Vk ρa ⟨_,_,_,Ve⟩ (λw1 k1 t1=>F.app cv g1 z.a.T z.a.M w1 (hw.trans (k1.below hw.size (λx hx h=>h (LY x hx)))) t1) F.len F.lf F.nz).mono ?_;exact Zz.down):G:=f ⟨h⟩
theorem δR {G H:Prop} (h:H)(f:PLift H->G:=by intro Zz;refine av w (λv=>Below w w v) (λv=>Below w w v) ρE (λkx=>kx) ?_;exact Zz.down):G:=f ⟨h⟩
theorem δS {G H:Prop} (h:H)(f:PLift H->G:=by intro Zz;refine aI (λv=>Below w w v/\ah v w (dB l.has l.D l.E l.p Mc Mc) 238/\ah v (w+1) mE 238) ⟨ρE,ρB,ρB⟩ ?_;exact Zz.down):G:=f ⟨h⟩
theorem δT {G H:Prop} (h:H)(f:PLift H->G:=by intro Zz;have XM:w.heap.size+1<v1:=hR1;have hm:=ag (hm h);have HG:=(ae.ko hm.out.1 k9 (λx hx _ e=>by have:=XM;omega)).base_le z01;revert HG;revert hm;revert XM;exact Zz.down):G:=f ⟨h⟩
theorem δU {G H:Prop} (h:H)(f:PLift H->G:=by intro Zz;have Jf:=g1.size;have Rr:=θ3 A1.r C1.r R1.r;have cX:=X1.cell;have fX:=X1.frozen;have zX:=X1.size;revert zX;revert fX;revert cX;revert Rr;revert Jf;exact Zz.down):G:=f ⟨h⟩
theorem δV {G H:Prop} (h:H)(f:PLift H->G:=by intro Zz;have H0:=H.own (o':=(o.more w .no)) (λx hx=>aT.more_lt hx);have S':=H0.1;have MS:∀x,x<w.heap.size->(o.more w .no) x=o x:=λx hx=>aT.more_lt hx;have Yw:∀x,w.heap.size<=x->(o.more w .no) x=.no:=λx hx=>aT.more_ge hx;obtain⟨s0,Ka⟩:=Nq ({s with clk:=now}:SS);have W0:s0.Wf:=τn;revert W0;revert Ka;revert s0;revert Yw;revert MS;revert S';revert H0;exact Zz.down):G:=f ⟨h⟩
theorem δW {G H:Prop} (h:H)(f:PLift H->G:=by intro Zz;refine(rb _ 0 0 false 0 0 0 0 0 0 0 0 0 0 0 ⟨by decide,by decide,by decide⟩ false rfl).mono ?_;exact Zz.down):G:=f ⟨h⟩
theorem δX {G H:Prop} (h:H)(f:PLift H->G:=by intro Zz;have nBR:=dV B' RB ρf;have nBS:=dV B' SB ρf;have RS:=dV RB SB ρf;have TC:=B'.size;have zR0:=RB.size;have Xd:=SB.size;revert Xd;revert zR0;revert TC;revert RS;revert nBS;revert nBR;exact Zz.down):G:=f ⟨h⟩
theorem δY {G H:Prop} (h:H)(f:PLift H->G:=by intro Zz;have hc:∀e v,(Instr.checkKey e 10000 K (ik k)).run P v=.ok () v:=λe v=>MapKept.run_checkKey (n:=9999) hK ρr e;revert hc;exact Zz.down):G:=f ⟨h⟩
theorem δZ {G H:Prop} (h:H)(f:PLift H->G:=by intro Zz;have Lg:=λd os=>((U1.below (ZW _ d os)).cell (i:=a) ρa);refine δm ?_;intro KT;revert KT;revert Lg;exact Zz.down):G:=f ⟨h⟩
theorem δ0 {G H:Prop} (h:H)(f:PLift H->G:=by intro Zz;refine eu wr (λx=>x=w.heap.size) (λv=>ah v w #[(aV (Y)),(bX (Y)),(gV (Y)),(iY (Y))] 70) ρB (λ_ kx=>kx) ?_;exact Zz.down):G:=f ⟨h⟩
theorem δ1 {G H:Prop} (h:H)(f:PLift H->G:=by intro Zz;refine eu v1 (λx=>x=w.heap.size) (λv=>ah v w #[Kn,Kz,ι ε 2] 82) ρB (λ_ kx=>kx) ?_;rintro v9 R9 k9;have Kd:=R9.cell;refine ZO (v:=φ #[Kn,Kz,ι ε 2]) σo rfl ?_;revert Kd;revert k9;revert R9;revert v9;exact Zz.down):G:=f ⟨h⟩
theorem δ2 {G H:Prop} (h:H)(f:PLift H->G:=by intro Zz;refine δj ?_;intro w1 IG C1;have R1:ah w1 (w+1) #[Ky,Ky] 232:=Zv IG;refine η2 ?_;intro g1 Jf;clear IG;have Rr:=θ2 C1.r R1.r;revert Rr;revert Jf;revert g1;revert R1;revert C1;revert w1;exact Zz.down):G:=f ⟨h⟩
theorem δ3 {G H:Prop} (h:H)(f:PLift H->G:=by intro Zz;refine aI (λv=>Below w w v/\ah v w (dB l.has l.D l.E l.p l.e l.t) 238/\ah v (w+1) mE 238) ⟨ρE,ρB,ρB⟩ ?_;exact Zz.down):G:=f ⟨h⟩
end Go.Proofs.YtfdlemkplejdnaaGreat
