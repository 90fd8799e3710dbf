/- WholeLatest, part 2. Conditions: none. -/
import Derived.Test.YtfdlemkplejdnaaGreatA1
import Derived.LoopN
import Derived.Deep.RegionWith
import Derived.Deep.RegionHeldLaw
import Derived.Deep.CutBlock
import Derived.Shelf.Abstract
import Derived.IntWalk
namespace Go.Proofs.YtfdlemkplejdnaaGreat
open Go.RowKit Go.Sort
open Value renaming int->ι,pointer->ψ,slice->ζ,tuple->χ,agg->φ,map->μ,bool->β
open IntKind renaming u64->υ,i64->ε,u16->ω
open Ending renaming returned->ϰ
open Go.Proofs.Tryz renaming prog->Ψ,underlying3->Θ,underlying147->Δ,underlying152->Γ,underlying202->Φ,underlying39->Ξ,underlying207->Ω
open Go renaming World->ϖ,Value->ϗ
set_option linter.unusedVariables false
set_option linter.unusedSimpArgs false
set_option maxHeartbeats 8000000
set_option maxRecDepth 100000
theorem ξa {p:Prop} (h:p:=by
 refine aV w (λv=>KO (λx=>x=g) w v/\US v g N) (λv=>KO (λx=>x=g) w v/\US v g N) ⟨ρK,ρZ⟩ (λkx=>kx) ?_;rintro W ⟨kW,Wz⟩;clear KQ Lk Lo Sx Sy U0;go_wp2_with fail;go_loopw [9,10] (λt u wr=>∃i j:Nat,t=ι ε i/\u=ι ε j/\(a+1<=i/\i<=b)/\(a<=j/\j<b)/\US wr g N/\KO (λx=>x=g) w wr) (λt u _=>(intOf u+2 - intOf t).toNat);case atStart=>exact⟨a+1,b - 1,by first|rfl|(congr 1;omega)|go_num,by first|rfl|(congr 1;omega)|go_num,⟨by omega,by omega⟩,⟨by omega,by omega⟩,Wz,kW⟩
 case round=>
  obtain⟨i,j,rfl,rfl,hi,hj,⟨f,U9⟩,k99⟩:=hrel;generalize wr=W at*;go_upto_block 2 with fail;go_cut [9] from 29 to 45 (λt wx=>∃i1:Nat,t=ι ε i1/\((a+1<=i1/\i1<=b)/\i<=i1)/\UR wx g N f/\KO (λx=>x=g) W wx);case first=>
   go_wp2_with fail;go_loopw [9] (λt wr=>∃i1:Nat,t=ι ε i1/\((a+1<=i1/\i1<=b)/\i<=i1)/\UR wr g N f/\KO (λx=>x=g) W wr) (λt _=>(j+1 - intOf t).toNat);case atStart=>exact⟨i,rfl,⟨hi,qR _⟩,U9,KO.refl _ _⟩
   case round=>
    obtain⟨i1,rfl,hv,U0,Kj⟩:=hrel;by_cases cg:i1<=j
    rotate_left
    ·have dg:=qF cg;have KQ:=U0.size;go_wp2_with fail;refine Zw (θ2 Kj U0) ?_;rintro v1 ⟨I',U1⟩;replace KQ:=U1.size;have Ly:=λd os=>(U1.below (qW _ d os)).size;refine Wq ?_
     repeat (go_big_quiet_step ((first
       | (go_at_call 226;(with_reducible exact aq (bX _ _ _))))))
     refine Zq (θ2 U1 I') ?_;rintro v2 ⟨U2,J'⟩;replace KQ:=U2.size;clear Ly U1;go_wp2;go_meet;exact⟨i1,rfl,hv,U2,J'⟩
    have dg:=qT cg;have KQ:=(U0.cell (i:=a) ρa);have Lk:=(U0.cell (i:=i1) ρa);have Lo:=U0.size;go_wp2_with fail;refine Zw (θ2 Kj U0) ?_;rintro v1 ⟨I',U1⟩;replace KQ:=(U1.cell (i:=a) ρa);replace Lk:=(U1.cell (i:=i1) ρa);replace Lo:=U1.size;have Ly:=λd os=>((U1.below (qW _ d os)).cell (i:=a) ρa);have Nw:=λd os=>((U1.below (qW _ d os)).cell (i:=i1) ρa);have Nc:=λd os=>(U1.below (qW _ d os)).size;refine Wq ?_
    repeat (go_big_quiet_step ((first
      | (go_at_call 226;(with_reducible exact aq (bX _ _ _))))))
    refine Zq (θ2 U1 I') ?_;rintro v2 ⟨U2,J'⟩;replace KQ:=(U2.cell (i:=a) ρa);replace Lk:=(U2.cell (i:=i1) ρa);replace Lo:=U2.size;clear Ly Nw Nc U1;by_cases cc:f a<f i1
    rotate_left
    ·have PG:=qF cc;have TR:=dt (f i1<=f a);have Of:(!decide (f a<f i1))=true:=by rw[PG];rfl
     go_wp2_with fail
     all_goals (first|(refine ax (Eq.trans (Of).symm ?_:true=false) ρf;assumption)|skip)
     go_roundw;case rel=>exact⟨i1+1,by first|rfl|(congr 1;omega)|go_num,by omega,U2.below ρE,J'.step0 ρE⟩
     case measure=>first|(simp[intOf];done)|(simp[intOf];omega)
    have PG:=qT cc;have TR:=df (f i1<=f a);have Of:(!decide (f a<f i1))=false:=τV;go_wp2_with fail
    all_goals (first|(refine ax (Eq.trans (Of).symm ?_:false=true) ρf;assumption)|skip)
    go_meet;exact⟨i1,rfl,hv,U2,J'⟩
  case rest=>
   obtain⟨i1,rfl,hi1,U8,WS⟩:=hcut;clear hi;go_upto_block 4 with fail;go_cut [10] from 46 to 61 (λt wx=>∃j1:Nat,t=ι ε j1/\((a<=j1/\j1<b)/\j1<=j)/\UR wx g N f/\KO (λx=>x=g) W wx);case first=>
    go_wp2_with fail;go_loopw [10] (λt wr=>∃j1:Nat,t=ι ε j1/\((a<=j1/\j1<b)/\j1<=j)/\UR wr g N f/\KO (λx=>x=g) W wr) (λt _=>(intOf t).toNat);case atStart=>exact⟨j,rfl,⟨hj,qR _⟩,U8,WS⟩
    case round=>
     obtain⟨j1,rfl,hv,U0,Kj⟩:=hrel;by_cases cg:i1<=j1
     rotate_left
     ·have dg:=qF cg;have KQ:=U0.size;go_wp2_with fail;refine Zw (θ2 Kj U0) ?_;rintro v1 ⟨I',U1⟩;replace KQ:=U1.size;have Ly:=λd os=>(U1.below (qW _ d os)).size;refine Wq ?_
      repeat (go_big_quiet_step ((first
        | (go_at_call 226;(with_reducible exact aq (bX _ _ _))))))
      refine Zq (θ2 U1 I') ?_;rintro v2 ⟨U2,J'⟩;replace KQ:=U2.size;clear Ly U1;go_wp2;go_meet;exact⟨j1,rfl,hv,U2,J'⟩
     have dg:=qT cg;have KQ:=(U0.cell (i:=a) ρa);have Lk:=(U0.cell (i:=j1) ρa);have Lo:=U0.size;go_wp2_with fail;refine Zw (θ2 Kj U0) ?_;rintro v1 ⟨I',U1⟩;replace KQ:=(U1.cell (i:=a) ρa);replace Lk:=(U1.cell (i:=j1) ρa);replace Lo:=U1.size;have Ly:=λd os=>((U1.below (qW _ d os)).cell (i:=a) ρa);have Nw:=λd os=>((U1.below (qW _ d os)).cell (i:=j1) ρa);have Nc:=λd os=>(U1.below (qW _ d os)).size;refine Wq ?_
     repeat (go_big_quiet_step ((first
       | (go_at_call 226;(with_reducible exact aq (bX _ _ _))))))
     refine Zq (θ2 U1 I') ?_;rintro v2 ⟨U2,J'⟩;replace KQ:=(U2.cell (i:=a) ρa);replace Lk:=(U2.cell (i:=j1) ρa);replace Lo:=U2.size;clear Ly Nw Nc U1;by_cases cc:f a<f j1
     rotate_left
     ·have PG:=qF cc;have TR:=dt (f j1<=f a);have Of:(!decide (f a<f j1))=true:=by rw[PG];rfl
      go_wp2_with fail
      all_goals (first|(refine ax (Eq.trans (Of).symm ?_:true=false) ρf;assumption)|skip)
      go_meet;exact⟨j1,rfl,hv,U2,J'⟩
     have PG:=qT cc;have TR:=df (f j1<=f a);have Of:(!decide (f a<f j1))=false:=τV;go_wp2_with fail
     all_goals (first|(refine ax (Eq.trans (Of).symm ?_:false=true) ρf;assumption)|skip)
     go_roundw;case rel=>exact⟨j1 - 1,by first|rfl|(congr 1;omega)|go_num,by omega,U2.below ρE,J'.step0 ρE⟩
     case measure=>first|(simp[intOf];done)|(simp[intOf];omega)
   case rest=>
    obtain⟨j1,rfl,hj1,U7,k77⟩:=hcut
    rename ϖ=>wz
    clear hj U8 WS;have kz:=k99.trans k77 (λ_ _ e=>e);by_cases cx:j1<i1
    ·have dx:=qT cx;go_wp2;go_ret;exact⟨i1,rfl,by omega,by omega,U7.us.below ρE,kz.step0 ρE⟩
    have dx:=qF cx;have KQ:=U7.cell (i:=i1) ρa;have Lk:=U7.cell (i:=j1) ρa;have Lo:=U7.size;have Sx:=U7.frozen i1;have Sy:=U7.frozen j1;have nz:i1=j1\/i1≠j1:=ρa;rcases nz with nz|nz
    ·subst nz;go_wp2_with fail;go_region
     all_goals
      go_wp2;go_roundw;case rel=>exact⟨i1+1,i1 - 1,by first|rfl|(congr 1;omega)|go_num,by first|rfl|(congr 1;omega)|go_num,⟨by omega,by omega⟩,⟨by omega,by omega⟩,ρq,kz.trans (G:=λx=>x=g) ρK (λ_ _ e=>e)⟩
      case measure=>first|(simp[intOf];done)|(simp[intOf];omega)
    ·go_wp2_with fail;go_region
     all_goals
      go_wp2;go_roundw;case rel=>exact⟨i1+1,j1 - 1,by first|rfl|(congr 1;omega)|go_num,by first|rfl|(congr 1;omega)|go_num,⟨by omega,by omega⟩,⟨by omega,by omega⟩,ρq,kz.trans (G:=λx=>x=g) ρK (λ_ _ e=>e)⟩
      case measure=>first|(simp[intOf];done)|(simp[intOf];omega)):p:=h
theorem ξb {p:Prop} (h:p:=by have:=Kv.out;simp[intOf] at*;omega):p:=h
theorem ξc {p:Prop} (h:p:=by
 replace KQ:=U2.cell (i:=first+r) ρa;replace Lk:=U2.cell (i:=first+(2*r+1)) ρa;go_wp2_with fail;refine Zw (θ2 J' U2) ?_;rintro v3 ⟨Kk,U3⟩;replace KQ:=(U3.cell (i:=first+r) ρa);replace Lk:=(U3.cell (i:=first+(2*r+1)) ρa);replace Lo:=U3.size;have Ly:=λd os=>((U3.below (qW _ d os)).cell (i:=first+r) ρa);have Nw:=λd os=>((U3.below (qW _ d os)).cell (i:=first+(2*r+1)) ρa);have Nc:=λd os=>(U3.below (qW _ d os)).size;refine Wq ?_
 repeat (go_big_quiet_step ((first
   | (go_at_call 226;(with_reducible exact aq (bX _ _ _))))))
 refine Zq (θ2 U3 Kk) ?_;rintro v4 ⟨U4,Km⟩;replace KQ:=(U4.cell (i:=first+r) ρa);replace Lk:=(U4.cell (i:=first+(2*r+1)) ρa);replace Lo:=U4.size;clear Ly Nw Nc U3;by_cases c5:f (first+r)<f (first+(2*r+1))
 rotate_left
 ·have dc5:=qF c5;have ec5:=dt (f (first+(2*r+1))<=f (first+r));have nc5:(!decide (f (first+r)<f (first+(2*r+1))))=true:=by rw[dc5];rfl
  go_wp2_with fail
  all_goals (first|(refine ax (Eq.trans (nc5).symm ?_:true=false) ρf;assumption)|skip)
  (first|go_end0|((try simp only[Exit.inBlock,Exit.then]);refine qO (results_none rfl _ _ _) rfl ?_));exact⟨rfl,U4.us,Km⟩
 have dc5:=qT c5;have ec5:=df (f (first+(2*r+1))<=f (first+r));have nc5:(!decide (f (first+r)<f (first+(2*r+1))))=false:=by rw[dc5];rfl
 have nq:first+r≠first+(2*r+1):=ρa;have Sx:=U4.frozen (first+r);have Sy:=U4.frozen (first+(2*r+1));go_wp2_with fail
 all_goals (first|(refine ax (Eq.trans (nc5).symm ?_:false=true) ρf;assumption)|skip)
 go_region
 all_goals
  go_wp2;go_roundw;case rel=>exact⟨2*r+1,by first|rfl|(congr 1;omega),by omega,σy,Km.trans (G:=λx=>x=g) ρK (λ_ _ e=>e)⟩
  case measure=>simp[intOf];omega):p:=h
theorem ξd {p:Prop} (h:p:=by
 go_upto_region 7 with (fail);refine aV v6 (λv=>Below v6 v6 v) (λv=>Below w w v/\aK 3 fx v B (ζ oa n oc) l/\ah v (w+1) #[ζ oa n oc] 115/\ah v w #[ι ε t] 3) ρE (λkx=>⟨(KH.step0 kx).toBelow,G6.below kx,L6.below kx L6.size,T6.below kx T6.size⟩) ?_;rintro v9 ⟨Ll,G9,L9,T9⟩;clear cL fL zL cT fT zT;have cL:=L9.cell;have zL:=L9.size;have cT:=T9.cell;have zT:=T9.size;go_region_with (first|(go_at_call 188;refine(FB (ζ oa n oc) l _ B (G9.below ρE) hl hc).mono ?_;rintro e va ⟨s,rfl,hs,kx⟩;have kab:Below v9 v9 va:=Below.trans ρE (kx.mono ρp);have La:=L9.below kab L9.size;have Ta:=T9.below kab T9.size;have cTa:=Ta.cell;have zTa:=Ta.size;have QV:0<=s/\s<=288230376151711744:=⟨hs.1,by have h9:(l.length:Int)<=49:=ρa;omega⟩)|(go_at_call 186;refine(AA s t 1 _ QV ρa ρa).mono ?_;rintro e vb ⟨rfl,ky⟩;have kbc:Below va va vb:=Below.trans ρE (ky.mono ρp)))
 all_goals
  go_wp2;go_ret2;refine⟨_,_,rfl,((Ll.trans (kab.mono Ll.size)).trans (kbc.mono (qK Ll.size kab.size))).trans ρE,λe=>?_⟩;have h9:s=0:=by rw[e] at hs;simp at hs;omega
  rw[h9];unfold lq;simp):p:=h
theorem ξe {p:Prop} (h:p:=by first|(simp[intOf];done)|(simp[intOf];omega)):p:=h
theorem ξf {p:Prop} (h:p:=by
 have hr:g=v:=by have:=hv.out;simpa using this
 subst hr;have Rr:=S'.r;have KD:=((aj.c1 X').trans σk);have KL:=((aj.c3 X').trans σR);have MA:=((aj.c59 X').trans σZ);unfold CB;go_in;go_wp2_with fail;refine bR (θ4 (Ks (λ_=>False) w) S' A' X') ?_;clear Rr;rintro v1 ⟨I',Lp,Qf,LH⟩ Rr;replace KD:=((aj.c1 LH).trans σk);replace KL:=((aj.c3 LH).trans σR);replace MA:=((aj.c59 LH).trans σZ);have q:=af Lp;have KS:=λd os=>((aj.c1 (LH.below (qW _ d os))).trans σk);have Lg:=λd os=>((aj.c3 (LH.below (qW _ d os))).trans σR);have Oh:=λd os=>((aj.c59 (LH.below (qW _ d os))).trans σZ);refine Wq ?_
 repeat (go_big_quiet_step ((first
   | (go_at_call 124;(with_reducible exact aq (DJ s.A a.ON a.A a.O a.C o s.L i _ _ (Qf.below (qW _ _ _)) Sa.out))))))
 refine bE (θ4 Lp Qf LH I') ?_;clear Rr;rintro v2 ⟨MT,QF,LU,J'⟩ Rr;replace KD:=((aj.c1 LU).trans σk);replace KL:=((aj.c3 LU).trans σR);replace MA:=((aj.c59 LU).trans σZ);clear q KS Lg Oh Lp Qf LH;go_wp2;go_ret;exact⟨rfl,(J'.step0 ρE).toBelow⟩):p:=h
theorem ξg {p:Prop} (h:p:=by rintro e RJ ⟨rfl,o22,H22,oe22,kx⟩;have R22:=R21.ko kx (λf=>f Wg);have PB22:=Xj.ko kx (λf=>f nP21);have NX:=QA.trans kx (λx hx f=>by (try dsimp only at f);rw[ow21 x hx] at f;exact f);have z22:=kx.size;have nR22:=(oe22 _ R21.size).trans Wg;clear kx;have rR:=R22.r;have SU:=PB22.r;have nRP:¬w.heap.size=v4:=ρa;go_wp2_with fail;refine eR RJ (λx=>x=w.heap.size) (λv=>ah v w #[ι ε i,p.id,ι ε p.len,ι ω p.h0,ι ω p.h1,ι ω p.h2,ι ω p.h3,β Pf] 253) ρB (λ_ kx=>kx) ?_;rintro v23 R23 kx;replace rR:=R23.r;refine qO (v:=χ #[φ #[ι ε i,p.id,ι ε p.len,ι ω p.h0,ι ω p.h1,ι ω p.h2,ι ω p.h3,β Pf],fF]) τr rfl ?_;exact .inl ⟨i,Pf,p,r,c,xs,MK.out ▸ MG.out,by rw[<- TN.out.1];exact hc.out,by rw[<- TN.out.2.1];exact hq.out,by rw[<- TN.out.1];exact hu.out,rfl,o22,(H22.ko kx (λx e=>by (try dsimp only at e);rw[e];exact nR22)).same NG.out.symm,λx hx=>(oe22 x ρa).trans (ow21 x hx),NX.trans kx σv⟩):p:=h
theorem ξh {p:Prop} (h:p:=by go_wp2_with fail;refine eR v1 (λx=>x=w.heap.size) (λv=>ah v w #[Kn,Kz,Ko] 82) ρB (λ_ kx=>kx) ?_;rintro v9 R9 k9;have Mh:=R9.cell;refine qO (v:=φ #[Kn,Kz,Ko]) σm rfl ?_;exact⟨_,_,_,_,1,rfl,λh=>ax h ρf,I'.toBelow.trans (k9.below I'.size ρy)⟩):p:=h
theorem ξi {p:Prop} (h:p:=by
 have hs:=ag (show (if i.key.lt k then (1:Int) else 0)=1 from qP Ku);have H1:=ag (And.intro o2 hx);clear o1 o2 o3 o4 hx hi Ku;have X:=R;go_wp2_with fail;refine bR (θ4 (Ks (λ_=>False) wr) A B X) ?_;clear Rr Ss;rintro v1 ⟨I',A1,B1,X1⟩ Rr;have q:=θ2 (af A1) (af B1);refine Wq ?_;refine tf ?_;refine bE (θ4 A1 B1 X1 I') ?_;clear Rr;rintro v2 ⟨A2,B2,X2,J'⟩ Rr;clear q A1 B1 X1;go_wp2_with fail;go_wp2_with fail;refine bR (θ4 J' A2 B2 X2) ?_;clear Rr;rintro v3 ⟨Kk,A3,B3,X3⟩ Rr;have q:=θ2 (af A3) (af B3);refine Wq ?_
 repeat (go_big_quiet_step ((first
   | (go_at_call 270;(with_reducible exact cD (nI b i m0 (PT.ptr l) (PT.ptr r) h0 n0 k 1 _ (B3.below (qW _ _ _) B3.size) hs.out))))))
 refine bE (θ4 A3 B3 X3 Kk) ?_;clear Rr;rintro v4 ⟨A4,B4,X4,Km⟩ Rr;clear q A3 B3 X3;go_wp2_with fail;go_roundg r.sz;case measure=>rw[<- YT.out];simp only[PT.sz];omega
 case rel=>exact⟨r,rfl,rfl,X4,A4,k0.trans Km (λ_ _ f=>f),ag H1.out.1,ag H1.out.2⟩):p:=h
theorem ξj {p:Prop} (h:p:=by
 have hs:=ag (show (if i.key.lt k then (1:Int) else 0)=0 from qI Ku);have H1:=ag (And.intro o1 hx);clear o1 o2 o3 o4 hx hi Ku;have X:=L;go_wp2_with fail;refine bR (θ4 (Ks (λ_=>False) wr) A B X) ?_;clear Rr Ss;rintro v1 ⟨I',A1,B1,X1⟩ Rr;have q:=θ2 (af A1) (af B1);refine Wq ?_;refine tf ?_;refine bE (θ4 A1 B1 X1 I') ?_;clear Rr;rintro v2 ⟨A2,B2,X2,J'⟩ Rr;clear q A1 B1 X1;go_wp2_with fail;go_wp2_with fail;refine bR (θ4 J' A2 B2 X2) ?_;clear Rr;rintro v3 ⟨Kk,A3,B3,X3⟩ Rr;have q:=θ2 (af A3) (af B3);refine Wq ?_
 repeat (go_big_quiet_step ((first
   | (go_at_call 270;(with_reducible exact cD (nI b i m0 (PT.ptr l) (PT.ptr r) h0 n0 k 0 _ (B3.below (qW _ _ _) B3.size) hs.out))))))
 refine bE (θ4 A3 B3 X3 Kk) ?_;clear Rr;rintro v4 ⟨A4,B4,X4,Km⟩ Rr;clear q A3 B3 X3;go_wp2_with fail;go_roundg l.sz;case measure=>rw[<- YT.out];simp only[PT.sz];omega
 case rel=>exact⟨l,rfl,rfl,X4,A4,k0.trans Km (λ_ _ f=>f),ag H1.out.1,ag H1.out.2⟩):p:=h
theorem ξk {p:Prop} (h:p:=by
 go_wp2_with fail
 all_goals
  go_loopw [92] (λk wr=>k=Kz/\ah wr w #[ι ε T,ι ε Lm,ζ oa n oc] 26/\cK wr B (ζ oa n oc) Os/\aK 14 eN wr B1 (ζ (some ⟨ug0,Yk,none⟩) mn sc) M/\ah wr W6 #[ζ ra rn rc,ζ ea en ec] 35/\ah wr W (fh c) 43/\aK 12 ls wr B4 (ζ ea en ec) L/\KO (λ_=>False) w wr) (λk _=>0);case atStart=>exact⟨rfl,ρB,G0.below ρE,M0.below ρE,ρB,ρB,E0.below ρE,Kj.step0 ρE⟩
  case round=>
   obtain⟨rfl,S5,G5,M5,Y5,C5,E5,Kw⟩:=hrel;have z5:=Kw.size;clear S0 G0 M0 Y0 C0 E0 Z0 H0 Kj;replace Ss:=θ3 S5.r Y5.r C5.r;go_wp2;go_roundw;case rel=>exact⟨ua++[c],ur,by rw[qL,uhq.out];go_num,by rw[QD.out];simp,ρB,G5.below ρE,E5.below ρE,ρB,M5.below ρE,Kw.step0 ρE⟩
   case measure=>have:=RI.out;simp[intOf] at*;omega):p:=h
theorem ξl {p:Prop} (h:p:=by skip;go_wp2_with (first|(go_at_call 229;refine(aJ _ _ _ _).mono ?_;rintro e w' ⟨rfl,rfl⟩)|(go_at_call 118;refine(bi id par false r0 r1 r2 l0 l1 l2 u0 u1 u2 pk by_ _ hr).mono ?_;refine bf ?_;intro w' f' KK KJ;have KA:=A9.tr f';have rA:=KA.r;clear f')|(go_at_call 105;refine(aO id par false r0 r1 r2 l0 l1 l2 u0 u1 u2 pk by_ _ hl).mono ?_;refine bf ?_;intro w' f' KK KJ;have KA:=A9.tr f';have rA:=KA.r;clear f')|(go_at_call 230;refine(aL id par false r0 r1 r2 l0 l1 l2 u0 u1 u2 pk by_ _ hu).mono ?_;refine bf ?_;intro w' f' KK KJ;have KA:=A9.tr f';have rA:=KA.r;clear f'));go_ret;exact⟨dY (by rw[gp,gz,gy,gr,gu,gl];simp[qd]),ρE⟩):p:=h
theorem ξm {p:Prop} (h:p:=by skip;go_wp2_with (first|(go_at_call 229;refine(aJ _ _ _ _).mono ?_;rintro e w' ⟨rfl,rfl⟩)|(go_at_call 118;refine(bi id par true r0 r1 r2 l0 l1 l2 u0 u1 u2 pk by_ _ hr).mono ?_;refine bf ?_;intro w' f' KK KJ;have KA:=A9.tr f';have rA:=KA.r;clear f')|(go_at_call 105;refine(aO id par true r0 r1 r2 l0 l1 l2 u0 u1 u2 pk by_ _ hl).mono ?_;refine bf ?_;intro w' f' KK KJ;have KA:=A9.tr f';have rA:=KA.r;clear f')|(go_at_call 230;refine(aL id par true r0 r1 r2 l0 l1 l2 u0 u1 u2 pk by_ _ hu).mono ?_;refine bf ?_;intro w' f' KK KJ;have KA:=A9.tr f';have rA:=KA.r;clear f'));go_ret;exact⟨dY (by rw[gp,gz,gb,gr,gl,gu];simp[qd]),ρE⟩):p:=h
theorem ξn {p:Prop} (h:p:=by skip;go_wp2_with (first|(go_at_call 229;refine(aJ _ _ _ _).mono ?_;rintro e w' ⟨rfl,rfl⟩)|(go_at_call 118;refine(bi id par true r0 r1 r2 l0 l1 l2 u0 u1 u2 pk by_ _ hr).mono ?_;refine bf ?_;intro w' f' KK KJ;have KA:=A9.tr f';have rA:=KA.r;clear f')|(go_at_call 105;refine(aO id par true r0 r1 r2 l0 l1 l2 u0 u1 u2 pk by_ _ hl).mono ?_;refine bf ?_;intro w' f' KK KJ;have KA:=A9.tr f';have rA:=KA.r;clear f')|(go_at_call 230;refine(aL id par true r0 r1 r2 l0 l1 l2 u0 u1 u2 pk by_ _ hu).mono ?_;refine bf ?_;intro w' f' KK KJ;have KA:=A9.tr f';have rA:=KA.r;clear f'));go_ret;exact⟨dY (by rw[gp,gz,gb,gr,gu,gl];simp[qd]),ρE⟩):p:=h
theorem ξo {p:Prop} (h:p:=by skip;go_wp2_with (first|(go_at_call 229;refine(aJ _ _ _ _).mono ?_;rintro e w' ⟨rfl,rfl⟩)|(go_at_call 118;refine(bi id par false r0 r1 r2 l0 l1 l2 u0 u1 u2 pk by_ _ hr).mono ?_;refine bf ?_;intro w' f' KK KJ;have KA:=A9.tr f';have rA:=KA.r;clear f')|(go_at_call 105;refine(aO id par false r0 r1 r2 l0 l1 l2 u0 u1 u2 pk by_ _ hl).mono ?_;refine bf ?_;intro w' f' KK KJ;have KA:=A9.tr f';have rA:=KA.r;clear f')|(go_at_call 230;refine(aL id par false r0 r1 r2 l0 l1 l2 u0 u1 u2 pk by_ _ hu).mono ?_;refine bf ?_;intro w' f' KK KJ;have KA:=A9.tr f';have rA:=KA.r;clear f'));go_ret;exact⟨dY (by rw[gp,gz,gb,gr,gl];simp[qd]),ρE⟩):p:=h
theorem ξp {p:Prop} (h:p:=by skip;go_wp2_with (first|(go_at_call 229;refine(aJ _ _ _ _).mono ?_;rintro e w' ⟨rfl,rfl⟩)|(go_at_call 118;refine(bi id par true r0 r1 r2 l0 l1 l2 u0 u1 u2 pk by_ _ hr).mono ?_;refine bf ?_;intro w' f' KK KJ;have KA:=A9.tr f';have rA:=KA.r;clear f')|(go_at_call 105;refine(aO id par true r0 r1 r2 l0 l1 l2 u0 u1 u2 pk by_ _ hl).mono ?_;refine bf ?_;intro w' f' KK KJ;have KA:=A9.tr f';have rA:=KA.r;clear f')|(go_at_call 230;refine(aL id par true r0 r1 r2 l0 l1 l2 u0 u1 u2 pk by_ _ hu).mono ?_;refine bf ?_;intro w' f' KK KJ;have KA:=A9.tr f';have rA:=KA.r;clear f'));go_ret;exact⟨dY (by rw[gp,gz,gy,gr];simp[qd]),ρE⟩):p:=h
theorem ξq {p:Prop} (h:p:=by obtain⟨PX,rfl,lX,g1,A1,R1,C1,N1,L1,X1⟩:=hcut;have KN:=g1.size;have Ss:=θ5 A1.r R1.r C1.r N1.r L1.r;have cX:=X1.cell;have fX:=X1.frozen;have zX:=X1.size;go_wp2_with fail;refine(mw a s u _ oa os Hu.out).mono ?_;rintro e w2 ⟨rfl,Kx⟩;have R2:ah w2 (w+1) ou 236:=Zv Kx;have X2:ah w2 (PX) (gd s) 236:=Zv Kx;have g2:=Tg w Kx;have Li:=Kx.size;(try simp at Li);clear Kx;clear Ss;replace Rr:=R2.r;replace cX:=X2.cell;replace fX:=X2.frozen;replace zX:=X2.size;go_upto_region 4 with (fail);refine aI (λv=>Below w w v/\ah v (w+1) ou 236/\ah v (PX) (gd u) 236) ⟨ρE,ρB,ρB⟩ ?_;rintro w3 ⟨g3,R3,X3⟩;have NW:=g3.size;replace Rr:=R3.r;replace cX:=X3.cell;replace fX:=X3.frozen;replace zX:=X3.size;go_wp2;exact Eb (w+1) (gd u) 236 rfl σ7):p:=h
theorem ξr {p:Prop} (h:p:=by exact⟨a++[c],r,s,by rw[qL,hq.out];go_num,rfl,by rw[Kq.out];simp,by rw[qL,hq.out];exact K6.out,by rw[qL,hq.out];simp;omega,G1.below ρE,I'.step0 ρE⟩):p:=h
theorem ξs {p:Prop} (h:p:=by change Hid _ at PO Tx;go_wp2_with fail;refine bR (θ6 J' H2 MT PB2 LU Q2) ?_;clear Rr Ss;rintro v3 ⟨Kk,H3,MU,ZN,LW,Q3⟩ Rr;replace KD:=(aj.c0 LW);replace KL:=((aj.c3 LW).trans σu);have Og:=af MU;have SR:=af ZN;have KS:=λd os=>(aj.c0 (LW.below (qW _ d os)));have Lg:=λd os=>((aj.c3 (LW.below (qW _ d os))).trans σu);refine Wq ?_;refine tf ?_;refine bE (θ6 H3 MU ZN LW Q3 Kk) ?_;clear Rr;rintro v4 ⟨H4,OM,PB4,LX,Q4,Km⟩ Rr;replace KD:=(aj.c0 LX);replace KL:=((aj.c3 LX).trans σu);clear Og SR KS Lg H3 MU ZN LW Q3;go_wp2;go_ret;exact⟨26,s0,rfl,by rw[Tx.out];exact PO.out,(o.more w .no),H4.below ρE,Ou,Km.step0 ρE⟩):p:=h
theorem ξt {p:Prop} (h:p:=by
 have UV:=@run_makeMap Ψ;go_in;go_wp2_with fail;refine(Is _).mono ?_;rintro e v1 ⟨rfl,T1,kx⟩;have z1:=T1.1.size;go_wp2;go_ret;refine⟨_,rfl,⟨λx=>w.heap.size<=x/\x<v1+2,⟨w,v1,.nil,[],ρB,aZ.below T1 ρE,?_,by simp[PT.bare,AT.Ord,AT.items],λy=>by simp[PT.bare,AT.items],λj=>rfl,λj p h=>(by cases h),⟨by omega,by omega,by omega,λx hx=>by simp[PT.bs] at hx⟩,λx hx=>by simp;omega⟩,λx hx=>hx.1⟩,?_⟩
 ·exact(aB.made v1).alloc _
 ·exact Below.trans kx (Below.mono ρE kx.size)):p:=h
theorem ξu {p:Prop} (h:p:=by rintro e v5 ⟨rfl,QA5,kx⟩;have H5:=H4.entTo (x:=s0.e i) hc Ua.out KU.out kx (λy f=>.inr (Pg.out y f)) ⟨LX.ko kx σ9,ob,by unfold ed;rw[qP Qs.out];exact⟨Q,Qo,rfl,QA5,Pg.out⟩,ok.out⟩;rw[kJ] at H5;have Kw:=Km.trans kx σF;clear kx;change Hid _ at PO Tx;go_wp2;go_ret;exact⟨30,s0,rfl,by rw[Tx.out];exact PO.out,(o.more w .no),H5.below ρE,Ou,Kw.step0 ρE⟩):p:=h
theorem ξv {p:Prop} (h:p:=by go_wp2_with fail;refine Zc Km ?_;rintro v5 Kw;refine(AL v5).mono ?_;rintro e v6 ⟨rfl,kx⟩;have KH:KO (λ_=>False) w v6:=Kw.step0 kx;clear kx;go_wp2;go_ret;exact⟨rfl,KH.toBelow.trans ρE⟩):p:=h
theorem ξw {p:Prop} (h:p:=by unfold CB;go_in;go_wp2;go_ret;exact⟨rfl,ρE⟩):p:=h
theorem ξx {p:Prop} (h:p:=by
 by_cases Ku:k<m
 ·go_wp2;go_round;case rel=>exact⟨k+1,by omega,by go_num,by rw[hs.out]⟩
  case measure=>simp[intOf];omega
 ·obtain rfl:k=m:=by omega
  go_wp2;go_ret;exact⟨rfl,ρE⟩):p:=h
theorem ξy {p:Prop} (h:p:=by go_in;go_wp2;go_ret;exact⟨rfl,rfl⟩):p:=h
theorem ξz {p:Prop} (h:p:=by replace QU:=ag QU;go_wp2_with (go_at_fn g;refine(hp x (by rw[Kq.out];simp) _ (Kj.step0 ρE).toBelow).mono ?_;rintro e v4 ⟨e0,kx⟩;rw[QU.out] at e0;subst e0;have Km:KO (λ_=>False) w v4:=Kj.step0 (Below.trans ρE (kx.mono ρp));have H4:=ae.below (ae.below H0 ρE) kx);go_ret;exact⟨by rw[hi.out,iB,qP QU.out];rfl,(Km.step0 ρE).toBelow⟩):p:=h
theorem ξA {p:Prop} (h:p:=by exact⟨a++[x],r,by rw[qL,hq.out];go_num,by rw[Kq.out];simp,by rw[hi.out,iB,QU.out,qI ρp,qL,hq.out];rfl,ae.below H4 ρE,Km.step0 ρE⟩):p:=h
theorem ξB {p:Prop} (h:p:=by
 rcases nq with nq|nq
 ·subst nq;go_region
  all_goals
   go_wp2;go_meet;exact⟨ρq,ρK⟩
 ·go_region
  all_goals
   go_wp2;go_meet;exact⟨ρq,ρK⟩):p:=h
theorem ξC {p:Prop} (h:p:=by have hp:(0:Int)<2 ^ k:=Int.pow_pos ρa;exact⟨Int.ediv_nonneg r0.1 ρa,Int.le_trans (Int.ediv_le_self _ r0.1) r0.2⟩):p:=h
theorem ξD {p:Prop} (h:p:=by go_ret2;refine⟨_,rfl,?_,⟨LJ.below ρE LJ.size,⟨LB,QF.below ρE,hA.out⟩,⟨_,Td.below ρE,λj=>by rw[jk];show _=(if j=leaf then false else S.on j);split<;>simp[hO.out]⟩,⟨_,Sj.below ρE,by rw[VJ];exact WZ.below ρE⟩,oB,oA,oO,oC⟩,J'.step0 ρE⟩;(first|rw[NV,LI.out]|rw[LI.out]);exact ae.below G2 ρE):p:=h
theorem ξE {p:Prop} (h:p:=by have Ku:¬(q:Int)<(n:Int):=ρo;have hd:=qF Ku;change Hid _ at hi Kv;clear Kq;go_wp2;go_ret;exact⟨by rw[hi.out];rfl,(Kj.step0 ρE).toBelow⟩):p:=h
theorem ξF {p:Prop} (h:p:=by have g:L 6=true:=ρg;have:=h.d6 g;simp[this]):p:=h
theorem ξG {p:Prop} (h:p:=by have g:L 10=true:=ρg;have:=h.d10 g;simp[this]):p:=h
theorem ξH {p:Prop} (h:p:=by rw[<- YT.out];simp only[PT.sz];omega):p:=h
theorem ξI {p:Prop} (h:p:=by go_wp2_with fail;(first|go_end0|((try simp only[Exit.inBlock,Exit.then]);refine qO (results_none rfl _ _ _) rfl ?_));exact⟨rfl,Wy,Kj⟩):p:=h
theorem ξJ {p:Prop} (h:p:=by
 constructor
 ·intro h j;have:=hl j;rw[List.eq_nil_of_length_eq_zero h] at this;simp only[lk] at this;cases e:m j with
  | none=>rfl
  | some p=>rw[e] at this;cases this
 ·intro h;cases L with
  | nil=>rfl
  | cons p r=>have:=hl p.1;rw[h] at this;obtain⟨a,b⟩:=p;simp[lk] at this):p:=h
theorem ξK {p:Prop} (h:p:=by have g:L 7=true:=ρg;have:=h.d7 g;simp[this]):p:=h
theorem ξL {p:Prop} (h:p:=by have g:L 8=true:=ρg;have:=h.d8 g;simp[this]):p:=h
theorem ξM {p:Prop} (h:p:=by have g:L 9=true:=ρg;have:=h.d9 g;simp[this]):p:=h
theorem ξN {p:Prop} (h:p:=by unfold CB;go_in;go_wp2_with (first|(go_at_call 229;refine(aJ _ _ _ _).mono ?_;rintro e w' ⟨rfl,rfl⟩));go_ret;exact⟨rfl,ρE⟩):p:=h
theorem ξO {p:Prop} (h:p:=by
 have d2:(c.id !=x.id)=true:=by simp[c2]
 have hy2:Y=(ys++[c])++bU x true r:=τp;clear TZ;replace hy2:=ag hy2;go_wp2_with (refine au Tryz.underlying27 dD rfl (λ_=>rfl) gK ρf ρf rfl (.tmp 33) (.tmp 35) rfl (w+1) (ζ ob ys.length oe) ys c v1 #[ι ε c.id,ι ε c.par,β c.lf,c.r0,c.r1,c.r2,c.l0,c.l1,c.l2,c.u0,c.u1,c.u2,ι ε c.pk,ι ε c.by_] rfl ρs ρs (H1.below ρE) ρB ρa ρF ?_;intro o4 v4 H4 kx;replace kx:=kx.of_alloc;have C4:=C1.ko kx (ae.notown H1 ρa);have G4:=G1.ko kx (λy hy=>ae.notown H1 ρa);have X4:=X1.ko kx (λh=>ax (ae.own_ge H0 _ h.symm).2 ρa);have Km:KO (λ_=>False) w v4:=I'.trans kx σs;have Vh:=Km.size;replace cC:=C4.cell;replace fC:=C4.frozen;replace zC:=C4.size;replace cX:=X4.cell;replace fX:=X4.frozen;replace zX:=X4.size);go_roundw;case rel=>exact⟨a++[c],r,true,ys++[c],by rw[qL,hq.out];go_num,rfl,by rw[Kq.out];simp,hy2.out,by simp;rw[hq.out];omega,ae.below H4 ρE,ρB,G4.below ρE,Km.step0 ρE⟩
 case measure=>exact ξb):p:=h
theorem ξP {p:Prop} (h:p:=by
 go_wp2_with fail;refine Zc (θ5 Kk D3 G3 H3 X3) ?_;rintro v4 ⟨Km,D4,G4,H4,X4⟩;replace cX:=X4.cell;replace fX:=X4.frozen;replace zX:=X4.size;refine(hH v4 D4).mono ?_;rintro e v5 ⟨rfl,kx⟩;obtain⟨D5,G5,H5,X5,Kw⟩:=Mw kx (θ5 D4 G4 H4 X4 Km);replace cX:=X5.cell;replace fX:=X5.frozen;replace zX:=X5.size;clear kx;go_wp2_with (refine au Tryz.underlying45 bG rfl (λ_=>rfl) ρC ρf ρf rfl (.tmp 46) (.tmp 48) rfl w (ζ (some ⟨gy,oy,none⟩) ym yc) ys n0 v5 #[ι ε n0] rfl ρs ρs (H5.below ρE) ρB ρa ρF ?_;intro o6 v6 H6 kx;replace kx:=kx.of_alloc;have D6:=D5.ko kx (λy hy=>ae.notown H5 ρa);have G6:=G5.ko kx (λy hy=>ae.notown H5 ρa);have X6:=X5.ko kx (λh=>ae.ne_blk H5 X5 ρf h);have KH:KO (λ_=>False) w v6:=Kw.trans kx τg;have zk6:=KH.size;replace cX:=X6.cell;replace fX:=X6.frozen;replace zX:=X6.size);go_roundw;case rel=>exact⟨a++[c],r,ys++[n0],by rw[qL,hq.out];go_num,by rw[Kq.out];simp,Pj.out,ae.below H6 ρE,D6.below ρE,G6.below ρE,KH.step0 ρE⟩
 case measure=>exact ξb):p:=h
theorem ξQ {p:Prop} (h:p:=by
 go_wp2_with fail;refine Zc (θ5 Kk D3 G3 H3 X3) ?_;rintro v4 ⟨Km,D4,G4,H4,X4⟩;replace cX:=X4.cell;replace fX:=X4.frozen;replace zX:=X4.size;refine(hH v4 D4).mono ?_;rintro e v5 ⟨rfl,kx⟩;obtain⟨D5,G5,H5,X5,Kw⟩:=Mw kx (θ5 D4 G4 H4 X4 Km);replace cX:=X5.cell;replace fX:=X5.frozen;replace zX:=X5.size;clear kx;go_wp2_with (refine au Tryz.underlying45 bG rfl (λ_=>rfl) ρC ρf ρf rfl (.tmp 46) (.tmp 48) rfl w (ζ (some ⟨gy,oy,none⟩) ym yc) ys n1 v5 #[ι ε n1] rfl ρs ρs (H5.below ρE) ρB ρa ρF ?_;intro o6 v6 H6 kx;replace kx:=kx.of_alloc;have D6:=D5.ko kx (λy hy=>ae.notown H5 ρa);have G6:=G5.ko kx (λy hy=>ae.notown H5 ρa);have X6:=X5.ko kx (λh=>ae.ne_blk H5 X5 ρf h);have KH:KO (λ_=>False) w v6:=Kw.trans kx τg;have zk6:=KH.size;replace cX:=X6.cell;replace fX:=X6.frozen;replace zX:=X6.size);go_roundw;case rel=>exact⟨a++[c],r,ys++[n1],by rw[qL,hq.out];go_num,by rw[Kq.out];simp,Pj.out,ae.below H6 ρE,D6.below ρE,G6.below ρE,KH.step0 ρE⟩
 case measure=>exact ξb):p:=h
theorem ξR {p:Prop} (h:p:=by
 go_wp2_with (refine au Tryz.underlying197 eA rfl (λ_=>rfl) ρC ρf ρf rfl (.tmp 21) (.tmp 24) rfl w (ζ ob os.length oe) os c.r1 v2 #[c.r1] rfl ρs ρs (H2.below ρE) ρB ρa ρF ?_;intro o4 v4 H4 kx;replace kx:=kx.of_alloc;have G4:=G2.ko kx (λy hy=>ae.notown H2 ρa);have X4:=X2.ko kx (λh=>ae.ne_blk H2 X2 ρf h);have Km:KO (λ_=>False) w v4:=J'.trans kx τY;have Vh:=Km.size;replace cX:=X4.cell;replace fX:=X4.frozen;replace zX:=X4.size);go_roundw;case rel=>exact⟨a++[c],r,os++[c.r1],by rw[qL,hq.out];go_num,by rw[Kq.out];simp,by simp;rw[hq.out];omega,λe=>ax e ρp,τZ,ae.below H4 ρE,G4.below ρE,(Km.step0 ρE).toBelow⟩
 case measure=>exact ξb):p:=h
theorem ξS {p:Prop} (h:p:=by
 have Ku:(q:Int)<(n:Int):=ρo;have hd:=qT Ku;have NI:xs[q]?=some x:=ρI;have KI:xs≠[]:=ρS;obtain⟨Vd,OA,g0,e0,KY,e1,_⟩:=ae.at H0 (λ_=>rfl);have e1:=e1 KI;obtain⟨rfl,_,rfl⟩:=qV e0;subst e1;obtain⟨cx,gx,bx⟩:=HI.cell H0 q x NI;have Nu:q<n:=ρa;change Hid _ at hi Kq hq hn KY Kv;rcases QU:p x with _|_
 ·replace QU:=ag QU;go_wp2_with (go_at_fn g;refine(hp x (by rw[Kq.out];simp) _ (Kj.step0 ρE).toBelow).mono ?_;rintro e v4 ⟨e0,kx⟩;rw[QU.out] at e0;subst e0;have Km:KO (λ_=>False) w v4:=Kj.step0 (Below.trans ρE (kx.mono ρp));have H4:=ae.below (ae.below H0 ρE) kx);go_roundw;case rel=>exact ξA
  case measure=>exact ξb
 ·exact ξz):p:=h
theorem ξT {p:Prop} (h:p:=by
 subst Li;have K6:s+bD id f t (q+1) r=Y:=σn;change Hid _ at hz K6;go_wp2;go_roundw;case rel=>exact ξr
 case measure=>exact ξb):p:=h
theorem ξU {p:Prop} (h:p:=by go_wp2;go_ret;exact⟨rfl,Kj.toBelow.trans ρE⟩):p:=h
theorem ξV {p:Prop} (h:p:=by unfold CB;go_in;go_wp2;go_ret;exact⟨rfl,ρE⟩):p:=h
theorem ξW {p:Prop} (h:p:=by have g:L 1=true:=ρg;simpa using h.c1 g):p:=h
theorem ξX {p:Prop} (h:p:=by have g:L 2=true:=ρg;simpa using h.c2 g):p:=h
theorem ξY {p:Prop} (h:p:=by have g:L 3=true:=ρg;simpa using h.c3 g):p:=h
theorem ξZ {p:Prop} (h:p:=by have g:L 5=true:=ρg;simpa using h.c5 g):p:=h
theorem ξ0 {p:Prop} (h:p:=by have g:L 0=true:=ρg;simpa using h.c0 g):p:=h
theorem ξ1 {p:Prop} (h:p:=by go_quiet (fail);go_wp2;go_ret;have da':=da.out;have db':=db.out;exact⟨GO τL,ρE⟩):p:=h
theorem ξ2 {p:Prop} (h:p:=by have g:L 10=true:=ρg;simpa using h.c10 g):p:=h
theorem ξ3 {p:Prop} (h:p:=by
 go_wp2_with fail;go_region
 all_goals
  go_wp2;go_roundw;case rel=>exact⟨i+1,by first|rfl|(congr 1;omega)|go_num,by omega,σd,⟨Y,hY,ρB⟩,Km.trans (G:=λx=>x=g) ρK (λ_ _ e=>e)⟩
  case measure=>exact ξe):p:=h
theorem ξ4 {p:Prop} (h:p:=by rw[PT.bal_bs] at hx;simp only[PT.bs,qC,qM] at hx ⊢;grind):p:=h
theorem ξ5 {p:Prop} (h:p:=by
 obtain⟨h1,h2,h3⟩:=h;obtain⟨k1,k2,k3⟩:=k;rcases h1 with h1|⟨j,q,hq,h1⟩<;>rcases k1 with k1|⟨j',q',Ty,k1⟩
 ·omega
 ·have:=h3 j' q' Ty;omega
 ·have:=k3 j q hq;omega
 ·have:=h3 j' q' Ty;have:=k3 j q hq;omega):p:=h
theorem ξ6 {p:Prop} (h:p:=by rintro e v ⟨rfl,U1,k1⟩;go_wp2_with fail;(first|go_end0|((try simp only[Exit.inBlock,Exit.then]);refine qO (results_none rfl _ _ _) rfl ?_));exact⟨rfl,U1.below ρE,(Kj.trans k1 (λ_ _ e=>e)).step0 ρE⟩):p:=h
theorem ξ7 {p:Prop} (h:p:=by
 simp only[PT.bare,AT.items,qM,qC] at hy;rcases hy with hy|rfl|hy
 ·have:=o3 y hy;rw[hk] at this;exact ax (aG.lt_trans this Ku) (aG.lt_irrefl _)
 ·exact ax hk hi
 ·exact⟨y,hy,hk⟩):p:=h
theorem ξ8 {p:Prop} (h:p:=by have g:L 4=true:=ρg;simpa using h.c4 g):p:=h
theorem ξ9 {p:Prop} (h:p:=by have g:L 7=true:=ρg;simpa using h.c7 g):p:=h
theorem ηa {p:Prop} (h:p:=by obtain⟨PX,rfl,lX,g1,A1,R1,C1,N1,L1,X1⟩:=hcut;have KN:=g1.size;have Ss:=θ5 A1.r R1.r C1.r N1.r L1.r;have cX:=X1.cell;have fX:=X1.frozen;have zX:=X1.size;go_wp2;exact Eb (w+1) (gd s) 236 rfl σ7):p:=h
theorem ηb {p:Prop} (h:p:=by
 exfalso;unfold SS.put at e;split at e
 ·cases e
 ·simp only[hn] at e;cases e):p:=h
theorem ηc {p:Prop} (h:p:=by obtain⟨ws,F,QX⟩:=G.ws h;refine⟨ws,F,λv hv=>?_⟩;obtain⟨a,b,s1,e',s2,rfl,c1,c2,c3,c4⟩:=QX v hv;exact⟨a,b,s1,e',s2++[e],by simp,c1,c2,c3,by rw[cI,bQ,h2];simpa [bC] using c4⟩):p:=h
theorem ηd {p:Prop} (h:p:=by intro x hx h;simp only[PT.bs,qC,qM] at h ⊢;grind):p:=h
theorem ηe {p:Prop} (h:p:=by have l:=(am Tryz.underlying212 Θ h leaf (z:=φ #[Kz,Kz]) ρm).2;rw[hA leaf,eB,hc] at l;simp only[hs,hl,if_true,Option.getD_some,Gk,hq] at l;exact l):p:=h
theorem ηf {p:Prop} (h:p:=by have l:=(am Tryz.underlying212 Θ h i (z:=φ #[Kz,Kz]) ρm).2;rw[hA i,eB,hd] at l;simp only[hsd,if_true,Option.getD_some,Gk] at l;exact⟨_,l⟩):p:=h
theorem ηg {p:Prop} (h:p:=by
 go_roundw;case rel=>exact⟨a++[c],r,by rw[qL,hq.out];go_num,by rw[Kq.out];simp,by rw[hy2.out];exact ae.below H6 ρE,G6.below ρE,KH.step0 ρE⟩
 case measure=>exact ξb):p:=h
theorem ηh {p:Prop} (h:p:=by
 simp only[];by_cases hj:j=i
 ·subst hj;simp
 ·simp[hj]):p:=h
theorem ηi {p:Prop} (h:p:=by
 simp only[PT.bare,AT.items,qM,qC] at hy;rcases hy with hy|rfl|hy
 ·exact⟨y,hy,hk⟩
 ·exact ax hk hi
 ·have:=o4 y hy;rw[hk] at this;exact ax this Ku):p:=h
theorem ηj {p:Prop} (h:p:=by exact⟨[i],⟨c,hc,rfl,by show fc L c.par=none;rw[h0];exact h.nz⟩,by simp,by simp[pZ],λs=>⟨rfl,c,hc,s,h0⟩,λy hy=>.inl (by simpa using hy),[],rfl,λy hy=>by simp at hy⟩):p:=h
theorem ηk {p:Prop} (h:p:=by
 split
 ·rename_i g;obtain⟨h1,h2,h3⟩:=Classical.choose_spec g;show x<Classical.choose g;rcases h1 with e|⟨j,q,hq,e⟩
  ·rw[e];exact hx
  ·rw[e];exact h j q hq
 ·exact hx):p:=h
theorem ηl {p:Prop} (h:p:=by have hm:=hn.1 h0;subst h0;have HM:=ag hm;clear hm hn;go_wp2;go_ret;exact⟨_,rfl,⟨.inl rfl,qJ _,λj q hq=>by rw[HM.out] at hq;cases hq⟩,Below.refl _ _⟩):p:=h
theorem ηm {p:Prop} (h:p:=by rw[fq,Nk.out];unfold aP;split<;>first|rfl|(simp_all [gP];done)|(simp_all;done)):p:=h
theorem ηn {p:Prop} (h:p:=by go_in;go_wp2;go_ret;exact⟨⟨_,rfl⟩,MX ρE⟩):p:=h
theorem ηo {p:Prop} (h:p:=by obtain⟨_,_,rfl⟩:=G4.slice;have h1:=Oo.out;have h2:=KC.out;have h3:=WE.out;simp only[lenOf,qL,mD,List.length_nil] at h2 ⊢;omega):p:=h
theorem ηp {p:Prop} (h:p:=by go_wp2;go_ret;exact⟨rfl,J'.toBelow.trans ρE⟩):p:=h
theorem ηq {p:Prop} (h:p:=by have Li:z=false:=τD;subst Li;replace hz:=ag hz;exact ξw):p:=h
theorem ηr {p:Prop} (h:p:=by
 obtain rfl:z=false:=by rw[<- hz.out];exact qF (λh=>by have h2:=h.2 c Mu;omega)
 go_wp2;go_ret;exact⟨rfl,(I'.step0 ρE).toBelow⟩):p:=h
theorem ηs {p:Prop} (h:p:=by rcases a with ⟨⟨a1,a2⟩,⟨a3,a4⟩⟩;rcases b with ⟨⟨b1,b2⟩,⟨b3,b4⟩⟩;unfold better;split<;>(simp only[NoB,aG.lt,aG.mk.injEq] at*;omega)):p:=h
theorem ηt {p:Prop} (h:p:=by exfalso;have g:L 8=true:=ρg;have:=h.d8 g;simp[hi] at this):p:=h
theorem ηu {p:Prop} (h:p:=by exfalso;have g:L 9=true:=ρg;have:=h.d9 g;simp[hi] at this):p:=h
theorem ηv {p:Prop} (h:p:=by clear C1 R1;obtain⟨X,rfl,rfl,g2,R2,X2⟩:=hcut;have cX:=X2.cell;have Ss:=R2.r;have zX:=X2.size;go_wp2;exact Eb (w+1) (mV s) 232 rfl τP):p:=h
theorem ηw {p:Prop} (h:p:=by go_in;go_wp2_with fail;refine qO (v:=χ #[Kn,dO]) τN rfl ?_;exact⟨none,0,0,1,rfl,λh=>ax h ρf,ρE⟩):p:=h
theorem ηx {p:Prop} (h:p:=by refine⟨?_,hB.frozen _⟩;rw[hB.cell,Array.getElem?_eq_getElem ρa];rfl):p:=h
theorem ηy {p:Prop} (h:p:=by go_wp2;go_ret;exact⟨1,L,rfl,⟨ME.below ρE ME.size,O8.below ρE,K7⟩,λh=>ax h ρa,λ_=>rfl,Km.step0 ρE⟩):p:=h
theorem ηz {p:Prop} (h:p:=by unfold CB;go_in;go_wp2;go_ret;have ea':=ea.out;have eb':=eb.out;exact⟨dY (by unfold lq;rw[qI ρa,qI ρa]),by go_grown⟩):p:=h
theorem ηA {p:Prop} (h:p:=by exact h _ hb (λK u hK hu=>Below.setCells hK _ _ _ hu) (λb c s KI hbb=>ah.setCells_other KI _ _ _ hbb) (eC B _ _ _)):p:=h
theorem ηB {p:Prop} (h:p:=by have e1:r.b=(RN.start m d n 0 0).b:=h2.1;have e2:(u'.start m d n).b=(RN.start m d n 0 0).b:=(bJ ..).1;rw[e2,<- e1];exact hb):p:=h
theorem ηC {p:Prop} (h:p:=by
 go_in;go_wp2
 all_goals first
  | (exfalso;omega)
  | (go_ret;exact⟨dY (by have:=Hr.out;first | omega | (split<;>omega)),ρE⟩)):p:=h
theorem ηD {p:Prop} (h:p:=by exact bI (w+1+1+1) (dG r.has r.D r.E r.p r.e r.t) 238 _ _ _ Tryz.results154 ρs Bv Tryz.underlying238 rfl ρi):p:=h
theorem ηE {p:Prop} (h:p:=by have g:L 8=true:=ρg;simpa using h.c8 g):p:=h
theorem ηF {p:Prop} (h:p:=by have g:L 9=true:=ρg;simpa using h.c9 g):p:=h
theorem ηG {p:Prop} (h:p:=by
 have:=eU (gU x false h.nd) c hc;rw[hf] at this;split at this
 ·cases this;exact .inl rfl
 ·exact .inr (fH this).1):p:=h
theorem ηH {p:Prop} (h:p:=by
 unfold fc at h;split at h
 ·rename_i e;cases h;exact⟨by simp,e.symm⟩
 ·exact⟨qb _ (ih h).1,(ih h).2⟩):p:=h
theorem ηI {p:Prop} (h:p:=by rintro e w' ⟨a,b,c,v,z',p',y',l',rfl,e1,e2,e3,e4,e5,e6,e7,e8,_,e9,QM,_⟩;exact fin e1 (LS ▸ e2) e3 e4 e5 e6 e7 e8 e9 τE):p:=h
theorem ηJ {p:Prop} (h:p:=by exact⟨λi=>by unfold eI;rw[qI ρf,ph,iW,h.fc];rfl,by unfold eI;rw[qI ρf];exact mC x h.nd⟩):p:=h
theorem ηK {p:Prop} (h:p:=by exact bI (w+1) (dG r.has r.D r.E r.p r.e r.t) 238 _ _ _ Tryz.results219 ρs Bv Tryz.underlying238 rfl ρi):p:=h
theorem ηL {p:Prop} (h:p:=by unfold CB;go_in;go_wp2;go_ret;have ea':=ea.out;have eb':=eb.out;exact⟨dY (by unfold lq;rw[qP ρa]),by go_grown⟩):p:=h
theorem ηM {p:Prop} (h:p:=by unfold SS.duesTo SS.setE ay;simp only[];split<;>rename_i e<;>first|(rw[e];exact⟨rfl,rfl⟩)|exact⟨rfl,rfl⟩):p:=h
theorem ηN {p:Prop} (h:p:=by
 rcases h0 with ⟨_,_,_,rfl⟩|⟨_,rfl⟩
 ·exact f7.ok nh.nil ρp lc.nil hT RP
 ·exact f7.ok K Ov.nd C hT RP):p:=h
theorem ηO {p:Prop} (h:p:=by exact .inl (qD.1 (hP c hc).nd).2):p:=h
theorem ηP {p:Prop} (h:p:=by exact⟨a,b,h1,h2.ko (KO.of_below (F:=λ_=>False) k) (λ_ _ f=>f),λx hx=>(ho _ (h2.lt hx)).trans (h3 x hx)⟩):p:=h
theorem ηQ {p:Prop} (h:p:=by have:=OC.out;simp[intOf] at*;omega):p:=h
theorem ηR {p:Prop} (h:p:=by generalize 1+max l.high r.high=H at*;generalize 1+l.many+r.many=M at*;have cb:=hb.cell;have zb:=hb.size;exact ξy):p:=h
theorem ηS {p:Prop} (h:p:=by
 go_wp2;go_roundw;case rel=>exact⟨i+1,rfl,by omega,by omega,U2.us,J'⟩
 case measure=>exact ξe):p:=h
theorem ηT {p:Prop} (h:p:=by
 rcases hc with ⟨h1,h2,rfl⟩|⟨h1,h2,rfl⟩
 ·exact .inl ⟨n,h1,h2,rfl⟩
 ·exact .inr ⟨h2,rfl⟩):p:=h
theorem ηU {p:Prop} (h:p:=by
 rcases Nat.lt_or_ge x w with hl|hl
 ·rw[aU.more_lt hl];exact hf x hx
 ·exact aU.more_ge hl):p:=h
theorem ηV {p:Prop} (h:p:=by exact⟨0,Nat.zero_le _,rfl,by simp⟩):p:=h
theorem ηW {p:Prop} (h:p:=by have G:=H.gh i hi;rw[SI] at G;exact G.go (dI.2 ⟨he.1,he.2.1⟩) he.2.2.2.1 e1 e2 ρa ρa):p:=h
theorem ηX {p:Prop} (h:p:=by
 have:aP m id none=m:=funext λj=>by unfold aP;split<;>simp_all
 rw[this];exact H.below h2):p:=h
theorem ηY {p:Prop} (h:p:=by
 simp only[fc];by_cases e:i=c.id
 ·rw[qP e,qI ρa,qP e]
 ·rw[qI e,qI e,ih]):p:=h
theorem ηZ {G H:Prop} (h:H)(f:PLift H->G:=by
 intro Zz;have f1:rm id 1 65536=true:=qT Oa;have f2:rm par 0 65536=true:=qT Lj;have f3:(par==id)=false:=qN.2 ρa;have i0:∀v,(Instr.index 350 (φ #[r0,r1,r2,l0,l1,l2,u0,u1,u2]) Kz).run Ψ v=.ok (φ (aH r0 r1 r2)) v:=λ_=>by kernel_rfl
 have i1:∀v,(Instr.index 350 (φ #[r0,r1,r2,l0,l1,l2,u0,u1,u2]) Ko).run Ψ v=.ok (φ (aH l0 l1 l2)) v:=λ_=>by kernel_rfl
 have i2:∀v,(Instr.index 350 (φ #[r0,r1,r2,l0,l1,l2,u0,u1,u2]) (ι ε 2)).run Ψ v=.ok (φ (aH u0 u1 u2)) v:=λ_=>by kernel_rfl
 revert i2;revert i1;revert i0;revert f3;revert f2;revert f1;exact Zz.down):G:=f ⟨h⟩
theorem η0 {G H:Prop} (h:H)(f:PLift H->G:=by intro Zz;have g1:=Tg w Kr;have KN:=Kr.size;(try simp at KN);revert KN;revert g1;exact Zz.down):G:=f ⟨h⟩
theorem η1 {G H:Prop} (h:H)(f:PLift H->G:=by intro Zz;have A1:ah w1 w #[Xa,(hi (Ya)),(lo (Ya)),Ma] 234:=ah.below Pu Kr Pu.size;have B1:ah w1 (w+1) #[Xb,(hi (Yb)),(lo (Yb)),Mb] 234:=ah.below Uz Kr Uz.size;have R1:ah w1 (w+1+1) gc 234:=ah.below UH Kr UH.size;have g1:Below w w w1:=Qp.trans (Kr.mono Qp.size);have KN:w.heap.size<=w1:=g1.size;have Rr:=θ3 A1.r B1.r R1.r;revert Rr;revert KN;revert g1;revert R1;revert B1;revert A1;exact Zz.down):G:=f ⟨h⟩
theorem η2 {G H:Prop} (h:H)(f:PLift H->G:=by
 intro Zz;have x0:∀(x y:ϗ) v,(Instr.index 370 (φ #[x,y]) Kz).run Ψ v=.ok x v:=λ_ _ _=>by kernel_rfl
 have x1:∀(x y:ϗ) v,(Instr.index 370 (φ #[x,y]) Ko).run Ψ v=.ok y v:=λ_ _ _=>by kernel_rfl
 revert x1;revert x0;exact Zz.down):G:=f ⟨h⟩
theorem η3 {G H:Prop} (h:H)(f:PLift H->G:=by intro Zz;have nm:(m==0)=false:=qN.2 ρa;have nd:(d==0)=false:=qN.2 ρa;revert nd;revert nm;exact Zz.down):G:=f ⟨h⟩
theorem η4 {G H:Prop} (h:H)(f:PLift H->G:=by intro Zz;refine aI (λv=>Below w w v/\ah v w #[Xa,(hi (Ya)),(lo (Ya)),Ma] 234/\ah v (w+1) #[Xb,(hi (Yb)),(lo (Yb)),Mb] 234/\ah v (w+1+1) gc 234) ⟨ρE,ρB,ρB,ρB⟩ ?_;rintro v1 ⟨Qp,Pu,Uz,UH⟩;have Ux:=af Pu;have Yh:=af Uz;have Yi:=af UH;refine Wq ?_;revert Yi;revert Yh;revert Ux;revert UH;revert Uz;revert Pu;revert Qp;revert v1;exact Zz.down):G:=f ⟨h⟩
theorem η5 {G H:Prop} (h:H)(f:PLift H->G:=by intro Zz;have Zl:=aC B' M';have SM:=aC T'.1 M';have Zm:=eq B' T'.1 ρf;have SN:=aR.ne_map M' T'.2.1;have TD:=aR.ne_blk B' ρf T'.2.1;have zT:=T'.1.size;have zM:=M'.size;have zB:=B'.size;have zb:=T'.2.1.lt;revert zb;revert zB;revert zM;revert zT;revert TD;revert SN;revert Zm;revert SM;revert Zl;exact Zz.down):G:=f ⟨h⟩
theorem η6 {G H:Prop} (h:H)(f:PLift H->G:=by intro Zz;have Ku:¬(q:Int)<(n:Int):=ρo;have hd:=qF Ku;revert hd;revert Ku;exact Zz.down):G:=f ⟨h⟩
theorem η7 {G H:Prop} (h:H)(f:PLift H->G:=by intro Zz;have zw:=Kj.size;have Kv:a.length+b.length=n:=ρx;obtain⟨q,hq⟩:=Nq a.length;revert hq;revert q;revert Kv;revert zw;exact Zz.down):G:=f ⟨h⟩
theorem η8 {G H:Prop} (h:H)(f:PLift H->G:=by intro Zz;have Ku:(q:Int)<(n:Int):=ρo;have hd:=qT Ku;have KX:L[q]?=some c:=ρI;revert KX;revert hd;revert Ku;exact Zz.down):G:=f ⟨h⟩
theorem η9 {G H:Prop} (h:H)(f:PLift H->G:=by intro Zz;have g2:=Tg w Kx;have Li:=Kx.size;(try simp at Li);revert Li;revert g2;exact Zz.down):G:=f ⟨h⟩
theorem δa {G H:Prop} (h:H)(f:PLift H->G:=by intro Zz;refine(i5 b.val a.val _ _ k1.out).mono ?_;rintro e w1 ⟨rfl,Kr⟩;have A1:ah w1 w (f9 a.key.pos a.key.id a.val.pos a.val.id) 335:=Zv Kr;have B1:ah w1 (w+1) (f9 b.key.pos b.key.id b.val.pos b.val.id) 335:=Zv Kr;have R1:ah w1 (w+1+1) (f9 0 0 0 0) 335:=Zv Kr;revert R1;revert B1;revert A1;revert Kr;revert w1;exact Zz.down):G:=f ⟨h⟩
theorem δb {G H:Prop} (h:H)(f:PLift H->G:=by intro Zz;refine(oP W Y x _ hW hY Hc.out).mono ?_;rintro e w1 ⟨rfl,Kr⟩;have A1:ah w1 w #[X,(hi (Y)),(lo (Y)),M] 234:=Zv Kr;have W1:ah w1 (w+1) (mV W) 232:=Zv Kr;revert W1;revert A1;revert Kr;revert w1;exact Zz.down):G:=f ⟨h⟩
theorem δc {G H:Prop} (h:H)(f:PLift H->G:=by intro Zz;unfold Oper.wp execOp;simp only[ho,resolve,invoke,builtin,Sem.run_bind,Sem.run_pure,Result.andThen_ok,List.map_toArray,eJ,List.map_nil,hs,hx,hr];exact Zz.down):G:=f ⟨h⟩
theorem δd {G H:Prop} (h:H)(f:PLift H->G:=by intro Zz;have N:=F.num h.num h.inv (λy hy=>eV P.up y hy);have O:YS.Ok0 {y with s:=s',ev:=y.ev++[⟨op,true,false,y.clk,0,i,p⟩]}:=⟨I,N,⟨by show SS.clk _<=_;rw[F.clk];exact qJ _,h.clk.2⟩,by show 1<=SS.T _/\SS.T _<=_;rw[F.T];exact h.tt,h.til⟩;revert O;revert N;exact Zz.down):G:=f ⟨h⟩
theorem δe {G H:Prop} (h:H)(f:PLift H->G:=by intro Zz;have cR:∀v,aR v (r)->Calls Ψ 272 #[(r).ptr] v λe w'=>e=ϰ (ι ε H2)/\v=w':=λv h=>fG (r) H2 v h e2;have ca:∀v,aR v (a)->Calls Ψ 272 #[(a).ptr] v λe w'=>e=ϰ (ι ε G1)/\v=w':=λv h=>fG (a) G1 v h e3;revert ca;revert cR;exact Zz.down):G:=f ⟨h⟩
theorem δf {G H:Prop} (h:H)(f:PLift H->G:=by intro Zz;rintro e w1 ⟨rfl,Kr⟩;have C1:ah w1 w (aH m d n) 41:=Zv Kr;revert C1;revert Kr;revert w1;exact Zz.down):G:=f ⟨h⟩
theorem δg {G H:Prop} (h:H)(f:PLift H->G:=by intro Zz;have nn:(n==0)=false:=qN.2 ρa;have aX:=df (Md<m);have ct:=df (Md<n);revert ct;revert aX;revert nn;exact Zz.down):G:=f ⟨h⟩
theorem δh {G H:Prop} (h:H)(f:PLift H->G:=by intro Zz;obtain⟨n,hn⟩:=Nq L.length;rw[hn] at G hl ⊢;have zB:B<=w:=ρv;revert zB;revert hl;revert G;revert hn;revert n;exact Zz.down):G:=f ⟨h⟩
theorem δi {G H:Prop} (h:H)(f:PLift H->G:=by intro Zz;refine(bS l0 l1 l2 _ _ hl.1 hl.2.1 hl.2.2 rfl).mono ?_;rintro e w3 ⟨rfl,Lw⟩;have A3:=A2.tr Lw;have Ql:=Oz.tr Lw;have g3:=Tg w Lw;have NW:=Lw.size;(try simp at NW);clear Lw;replace Rr:=θ2 A3.r Ql.r;revert Rr;revert NW;revert g3;revert Ql;revert A3;revert w3;exact Zz.down):G:=f ⟨h⟩
theorem δj {G H:Prop} (h:H)(f:PLift H->G:=by intro Zz;refine jW (θ3 Kj S0 G0) (λv=>ah v wr #[ι ε c.k,(ζ ca c.ch.length cc),(ζ rb c.rl.length rc),c.pk.id,ι ε c.pk.len,ι ω c.pk.h0,ι ω c.pk.h1,ι ω c.pk.h2,ι ω c.pk.h3,c.tk] 80) ρB ?_;exact Zz.down):G:=f ⟨h⟩
theorem δk {G H:Prop} (h:H)(f:PLift H->G:=by intro Zz;refine Zw (θ2 Kj U0) ?_;rintro v1 ⟨I',U1⟩;replace KQ:=U1.size;have Ly:=λd os=>(U1.below (qW _ d os)).size;refine Wq ?_;revert Ly;revert KQ;revert U1;revert I';revert v1;exact Zz.down):G:=f ⟨h⟩
theorem δl {G H:Prop} (h:H)(f:PLift H->G:=by intro Zz;rintro v1 A1 ⟨I',B1,L1,R1⟩;replace cB:=B1.cell;replace fB:=B1.frozen;replace zB:=B1.size;replace cA:=A1.cell;replace fA:=A1.frozen;replace zA:=A1.size;have qB:=af B1;have qA:=af A1;refine Wq ?_;refine tf ?_;refine Zq (θ5 B1 L1 R1 A1 I') ?_;rintro v2 ⟨B2,L2,R2,A2,J'⟩;replace cB:=B2.cell;replace fB:=B2.frozen;replace zB:=B2.size;replace cA:=A2.cell;replace fA:=A2.frozen;replace zA:=A2.size;clear qB qA B1 L1 R1 A1;revert zA;revert fA;revert cA;revert zB;revert fB;revert cB;revert J';revert A2;revert R2;revert L2;revert B2;revert v2;revert I';revert v1;exact Zz.down):G:=f ⟨h⟩
theorem δm {G H:Prop} (h:H)(f:PLift H->G:=by intro Zz;have Nc:=λd os=>(U1.below (qW _ d os)).size;refine Wq ?_;revert Nc;exact Zz.down):G:=f ⟨h⟩
theorem δn {G H:Prop} (h:H)(f:PLift H->G:=by intro Zz;refine(bK l0 l1 l2 _ hl true ql).mono ?_;rintro e w2 ⟨rfl,Kx⟩;have A2:=A1.tr Kx;have Oz:ah w2 w1 (aH l0 l1 l2) 41:=Zv Kx;revert Oz;revert A2;revert Kx;revert w2;exact Zz.down):G:=f ⟨h⟩
theorem δo {G H:Prop} (h:H)(f:PLift H->G:=by intro Zz;refine Jw (θ6 (Ks (λx=>x ∈ (PT.node b l i r).bs) w) B L R Kb Vb) (λv=>ah v w #[k.pos,ι ε k.id] 333) ρB ?_;rintro v1 A1 ⟨I',B1,L1,R1,OJ,Qk⟩;replace cB:=B1.cell;replace fB:=B1.frozen;replace zB:=B1.size;replace Nh:=OJ.cell;replace Ni:=OJ.frozen;replace Nl:=OJ.size;replace NM:=Qk.cell;replace NN:=Qk.frozen;replace NZ:=Qk.size;replace cA:=A1.cell;replace fA:=A1.frozen;replace zA:=A1.size;have qB:=af B1;have qKb:=af OJ;have qVb:=af Qk;have qA:=af A1;refine Wq ?_;refine tf ?_;refine Zq (θ7 B1 L1 R1 OJ Qk A1 I') ?_;rintro v2 ⟨B2,L2,R2,O7,QJ,A2,J'⟩;replace cB:=B2.cell;replace fB:=B2.frozen;replace zB:=B2.size;replace Nh:=O7.cell;replace Ni:=O7.frozen;replace Nl:=O7.size;replace NM:=QJ.cell;replace NN:=QJ.frozen;replace NZ:=QJ.size;replace cA:=A2.cell;replace fA:=A2.frozen;replace zA:=A2.size;clear qB qKb qVb qA B1 L1 R1 OJ Qk A1;revert zA;revert fA;revert cA;revert NZ;revert NN;revert NM;revert Nl;revert Ni;revert Nh;revert zB;revert fB;revert cB;revert J';revert A2;revert QJ;revert O7;revert R2;revert L2;revert B2;revert v2;revert I';revert v1;exact Zz.down):G:=f ⟨h⟩
theorem δp {G H:Prop} (h:H)(f:PLift H->G:=by intro Zz;rintro e w1 ⟨rfl,Kr⟩;have A1:ah w1 w (lp id par lf r0 r1 r2 l0 l1 l2 u0 u1 u2 pk by_) 43:=Zv Kr;revert A1;revert Kr;revert w1;exact Zz.down):G:=f ⟨h⟩
theorem δq {G H:Prop} (h:H)(f:PLift H->G:=by intro Zz;have Ri:decide (Md<m)=true:=qT y0;have aX:=df (m<Md);revert aX;revert Ri;exact Zz.down):G:=f ⟨h⟩
theorem δr {G H:Prop} (h:H)(f:PLift H->G:=by intro Zz;refine eR v2 (λx=>x=(w.heap.size+1)) (λv=>ah v ((w+1)) #[ζ sa sn sc,ι ε m] 112) ρB (λ_ kx=>kx) ?_;rintro v9 R9 k9;have Mh:=R9.cell;refine qO (v:=φ #[ζ sa sn sc,ι ε m]) τt rfl ?_;revert Mh;revert k9;revert R9;revert v9;exact Zz.down):G:=f ⟨h⟩
theorem δs {G H:Prop} (h:H)(f:PLift H->G:=by intro Zz;refine(bS m d n k _ hm.1 hd.1 hn.1 Hk.out).mono ?_;exact Zz.down):G:=f ⟨h⟩
theorem δt {G H:Prop} (h:H)(f:PLift H->G:=by intro Zz;rintro e w4 ⟨rfl,MV⟩;have A4:=A3.tr MV;have QL:ah w4 w3 (aH u0 u1 u2) 41:=Zv MV;have g4:=Tg w MV;have Sc:=MV.size;(try simp at Sc);clear MV;replace Rr:=θ2 A4.r QL.r;revert Rr;revert Sc;revert g4;revert QL;revert A4;revert w4;exact Zz.down):G:=f ⟨h⟩
theorem δu {G H:Prop} (h:H)(f:PLift H->G:=by intro Zz;have nn:(n==0)=false:=qN.2 ρa;have aX:=df (Md<m);have Xt:decide (Md<n)=true:=qT y1;have ct:=df (n<Md);revert ct;revert Xt;revert aX;revert nn;exact Zz.down):G:=f ⟨h⟩
theorem δv {G H:Prop} (h:H)(f:PLift H->G:=by intro Zz;have z3:0<=H2/\H2<=1099511627776/\H1<=1099511627776/\0<=H1:=ρ2;have s_a:=ag (show a.many<=1099511627776 by simp only[PT.many];omega);revert s_a;revert z3;exact Zz.down):G:=f ⟨h⟩
theorem δw {G H:Prop} (h:H)(f:PLift H->G:=by intro Zz;refine(DQ r M v e _ NA hM H.out).mono ?_;rintro e w3 ⟨rfl,Lw⟩;have A3:=A2.tr Lw;have g3:=Tg w Lw;have NW:=Lw.size;(try simp at NW);clear Lw;revert NW;revert g3;revert A3;revert w3;exact Zz.down):G:=f ⟨h⟩
theorem δx {G H:Prop} (h:H)(f:PLift H->G:=by intro Zz;have lM:=(am Ω Θ M' id (z:=φ (bL ⟨⟨0,0⟩,⟨0,0⟩⟩)) ρm).1;rw[hl,hm] at lM;revert lM;exact Zz.down):G:=f ⟨h⟩
theorem δy {G H:Prop} (h:H)(f:PLift H->G:=by intro Zz;refine bR (θ7 QA C21 G21 T21 E21 S21 X21) ?_;rintro RJ ⟨NX,TH,Sl,Su,Rc,Rg,Tj⟩ Rr;replace rT:=Su.r;replace Ot:=(ll Rc);have qT:=af Su;have RG:=λd os=>(ll (Rc.below (qW _ d os)));have qX:=af Tj;refine Wq ?_;revert qX;revert RG;revert qT;revert Ot;revert rT;revert Rr;revert Tj;revert Rg;revert Rc;revert Su;revert Sl;revert TH;revert NX;revert RJ;exact Zz.down):G:=f ⟨h⟩
theorem δz {G H:Prop} (h:H)(f:PLift H->G:=by intro Zz;refine bR (θ6 Km H4 OM PB4 LX Q4) ?_;rintro v5 ⟨Kw,H5,NE,Vq,LA,Q5⟩ Rr;replace KD:=(aj.c0 LA);replace KL:=((aj.c3 LA).trans σu);have Og:=af NE;have SR:=af Vq;have KS:=λd os=>(aj.c0 (LA.below (qW _ d os)));have Lg:=λd os=>((aj.c3 (LA.below (qW _ d os))).trans σu);refine Wq ?_;refine tf ?_;refine bE (θ6 H5 NE Vq LA Q5 Kw) ?_;clear Rr;rintro v6 ⟨H6,Pa,Vr,MP,Q6,KH⟩ Rr;replace KD:=(aj.c0 MP);replace KL:=((aj.c3 MP).trans σu);clear Og SR KS Lg H5 NE Vq LA Q5;revert KL;revert KD;revert Rr;revert KH;revert Q6;revert MP;revert Vr;revert Pa;revert H6;revert v6;revert Kw;revert v5;exact Zz.down):G:=f ⟨h⟩
theorem δA {G H:Prop} (h:H)(f:PLift H->G:=by intro Zz;rintro e w1 ⟨rfl,Kr⟩;have A1:ah w1 w (bw n) 70:=Zv Kr;have R1:ah w1 (w+1) #[Ky,Kz] 104:=Zv Kr;revert R1;revert A1;revert Kr;revert w1;exact Zz.down):G:=f ⟨h⟩
theorem δB {G H:Prop} (h:H)(f:PLift H->G:=by intro Zz;have nn:(n==0)=false:=qN.2 ρa;have Ri:decide (Md<n)=true:=qT y0;have aX:=df (n<Md);revert aX;revert Ri;revert nn;exact Zz.down):G:=f ⟨h⟩
theorem δC {G H:Prop} (h:H)(f:PLift H->G:=by intro Zz;refine(bS u0 u1 u2 _ _ hu.1 hu.2.1 hu.2.2 rfl).mono ?_;rintro e w5 ⟨rfl,Lq⟩;have A5:=A4.tr Lq;have Tl:=QL.tr Lq;have g5:=Tg w Lq;have SK:=Lq.size;(try simp at SK);clear Lq;replace Rr:=θ2 A5.r Tl.r;revert Rr;revert SK;revert g5;revert Tl;revert A5;revert w5;exact Zz.down):G:=f ⟨h⟩
theorem δD {G H:Prop} (h:H)(f:PLift H->G:=by intro Zz;refine(bV m d n c _ hm.1 hd.1 hn.1 Hhk.out).mono ?_;refine δf ?_;intro w1 Kr C1;have W1:ah w1 (w+1) (bw W) 70:=Zv Kr;refine η0 ?_;intro g1 KN;clear Kr;have Rr:=θ2 C1.r W1.r;revert Rr;revert KN;revert g1;revert W1;revert C1;revert w1;exact Zz.down):G:=f ⟨h⟩
theorem δE {G H:Prop} (h:H)(f:PLift H->G:=by intro Zz;rintro e w1 ⟨rfl,Kr⟩;refine η0 ?_;intro g1 KN;clear Kr;revert KN;revert g1;revert w1;exact Zz.down):G:=f ⟨h⟩
theorem δF {G H:Prop} (h:H)(f:PLift H->G:=by intro Zz;refine δf ?_;intro w1 Kr C1;have Y1:ah w1 (w+1) (mV y) 232:=Zv Kr;have R1:ah w1 (w+1+1) ou 236:=Zv Kr;refine η0 ?_;intro g1 KN;clear Kr;revert KN;revert g1;revert R1;revert Y1;revert C1;revert w1;exact Zz.down):G:=f ⟨h⟩
theorem δG {G H:Prop} (h:H)(f:PLift H->G:=by intro Zz;refine(Ie W Y r _ hW hY Hr.out NA).mono ?_;rintro e w2 ⟨rfl,Kx⟩;have A2:=A1.tr Kx;have W2:=W1.tr Kx;refine η9 ?_;intro g2 Li;clear Kx;replace Rr:=θ2 A2.r W2.r;revert Rr;revert Li;revert g2;revert W2;revert A2;revert w2;exact Zz.down):G:=f ⟨h⟩
theorem δH {G H:Prop} (h:H)(f:PLift H->G:=by intro Zz;have Ku:(q:Int)<(n:Int):=ρo;have hd:=qT Ku;revert hd;revert Ku;exact Zz.down):G:=f ⟨h⟩
theorem δI {G H:Prop} (h:H)(f:PLift H->G:=by intro Zz;have nd:(d==0)=false:=qN.2 ρa;have nn:(n==0)=false:=qN.2 ρa;have aX:=df (Md<n);revert aX;revert nn;revert nd;exact Zz.down):G:=f ⟨h⟩
theorem δJ {G H:Prop} (h:H)(f:PLift H->G:=by intro Zz;have C2:ah w2 (w+1) (aH m d n) 41:=ah.below Sk Kx Sk.size;have N2:ah w2 (w+1+1) #[x] 39:=ah.below Sn Kx Sn.size;have R2:ah w2 (w+1+1+1) nt 238:=ah.below ZT Kx ZT.size;have g2:Below w w w2:=gv2.trans (Kx.mono gv2.size);have Li:w.heap.size<=w2:=g2.size;have Rr:=θ4 L2.r C2.r N2.r R2.r;revert Rr;revert Li;revert g2;revert R2;revert N2;revert C2;exact Zz.down):G:=f ⟨h⟩
theorem δK {G H:Prop} (h:H)(f:PLift H->G:=by intro Zz;refine eu wr (λv=>KO (λ_=>False) w v) (λv=>KO (λ_=>False) w v/\ah v w (f9 j.key.pos j.key.id j.val.pos j.val.id) 335) ((J'.trans (show KO (λx=>x=w.heap.size) _ _ from ρK) ρc)) (λkx=>⟨kx,ρB⟩) ?_;exact Zz.down):G:=f ⟨h⟩
theorem δL {G H:Prop} (h:H)(f:PLift H->G:=by intro Zz;refine Jc (θ2 (Ks (λ_=>False) w) G) (λv=>ah v w (fh x) 43/\ah v (w+1) #[Kn,Kz] 112) ⟨ρB,ρB⟩ ?_;rintro v1 ⟨C1,R1⟩ ⟨I',G1⟩;have Rr:=θ2 C1.r R1.r;refine(xG x.id x.par x.lf x.r0 x.r1 x.r2 x.l0 x.l1 x.l2 x.u0 x.u1 x.u2 x.pk x.by_ v1 hx.1 hx.2.1 hx.2.2 cw YP.out).mono ?_;rintro e v2 ⟨rfl,kx⟩;clear Rr;obtain⟨⟨G2,C2,R2,J'⟩,Rr⟩:=Mx kx (θ4 G1 C1 R1 I');clear kx;revert Rr;revert J';revert R2;revert C2;revert G2;revert v2;revert G1;revert I';revert R1;revert C1;revert v1;exact Zz.down):G:=f ⟨h⟩
theorem δM {G H:Prop} (h:H)(f:PLift H->G:=by intro Zz;simp only[PT.Apart,PT.bs,qC,qM,not_or] at ap;have OV:=(AT.high_many r.bare).2.1;have eJ:=AT.high_many a.bare;revert eJ;revert OV;revert ap;exact Zz.down):G:=f ⟨h⟩
theorem δN {G H:Prop} (h:H)(f:PLift H->G:=by intro Zz;refine(bK r0 r1 r2 _ hr true qr).mono ?_;refine δp ?_;intro w1 Kr A1;refine η0 ?_;intro g1 KN;clear Kr;have Rr:=A1.r;revert Rr;revert KN;revert g1;revert A1;revert w1;exact Zz.down):G:=f ⟨h⟩
theorem δO {G H:Prop} (h:H)(f:PLift H->G:=by intro Zz;have k2:KO (λy=>y=M) w v:=(KO.of_below (F:=λy=>y=M) ρE).trans kx (λ_ _ h=>h);have z2:=k2.size;revert z2;revert k2;exact Zz.down):G:=f ⟨h⟩
theorem δP {G H:Prop} (h:H)(f:PLift H->G:=by intro Zz;refine(Jv p z 0 0 T Lm cv rv xpk xtk L2 Pn w H WI ρa ⟨_,_,_,RR⟩ (λw1 k1 t1=>F.app cv g1 z.a.T z.a.M w1 (hw.trans (k1.below hw.size (λx hx h=>h (NT x hx)))) t1) F.len F.lf F.nz).mono ?_;exact Zz.down):G:=f ⟨h⟩
theorem δQ {G H:Prop} (h:H)(f:PLift H->G:=by intro Zz;refine av w (λv=>Below w w v) (λv=>Below w w v) ρE (λkx=>kx) ?_;exact Zz.down):G:=f ⟨h⟩
theorem δR {G H:Prop} (h:H)(f:PLift H->G:=by intro Zz;refine aI (λv=>Below w w v/\ah v w (dG l.has l.D l.E l.p Mc Mc) 238/\ah v (w+1) nt 238) ⟨ρE,ρB,ρB⟩ ?_;exact Zz.down):G:=f ⟨h⟩
theorem δS {G H:Prop} (h:H)(f:PLift H->G:=by intro Zz;have YJ:w.heap.size+1<v1:=hR1;have hm:=ag (hm h);have HG:=(ae.ko hm.out.1 k9 (λx hx _ e=>by have:=YJ;omega)).base_le z01;revert HG;revert hm;revert YJ;exact Zz.down):G:=f ⟨h⟩
theorem δT {G H:Prop} (h:H)(f:PLift H->G:=by intro Zz;have KN:=g1.size;have Rr:=θ3 A1.r C1.r R1.r;have cX:=X1.cell;have fX:=X1.frozen;have zX:=X1.size;revert zX;revert fX;revert cX;revert Rr;revert KN;exact Zz.down):G:=f ⟨h⟩
theorem δU {G H:Prop} (h:H)(f:PLift H->G:=by intro Zz;have H0:=H.own (o':=(o.more w .no)) (λx hx=>aU.more_lt hx);have S':=H0.1;have Ou:∀x,x<w.heap.size->(o.more w .no) x=o x:=λx hx=>aU.more_lt hx;have Zo:∀x,w.heap.size<=x->(o.more w .no) x=.no:=λx hx=>aU.more_ge hx;obtain⟨s0,MK⟩:=Nq ({s with clk:=now}:SS);have W0:s0.Wf:=τm;revert W0;revert MK;revert s0;revert Zo;revert Ou;revert S';revert H0;exact Zz.down):G:=f ⟨h⟩
theorem δV {G H:Prop} (h:H)(f:PLift H->G:=by intro Zz;refine(rb _ 0 0 false 0 0 0 0 0 0 0 0 0 0 0 ⟨by decide,by decide,by decide⟩ false rfl).mono ?_;exact Zz.down):G:=f ⟨h⟩
theorem δW {G H:Prop} (h:H)(f:PLift H->G:=by intro Zz;have nBR:=eq B' RB ρf;have nBS:=eq B' SB ρf;have TC:=eq RB SB ρf;have Vg:=B'.size;have zR0:=RB.size;have Ym:=SB.size;revert Ym;revert zR0;revert Vg;revert TC;revert nBS;revert nBR;exact Zz.down):G:=f ⟨h⟩
theorem δX {G H:Prop} (h:H)(f:PLift H->G:=by intro Zz;have hc:∀e v,(Instr.checkKey e 10000 K (ik k)).run P v=.ok () v:=λe v=>MapKept.run_checkKey (n:=9999) hK ρs e;revert hc;exact Zz.down):G:=f ⟨h⟩
theorem δY {G H:Prop} (h:H)(f:PLift H->G:=by intro Zz;have Nw:=λd os=>((U1.below (qW _ d os)).cell (i:=a) ρa);refine δm ?_;intro Nc;revert Nc;revert Nw;exact Zz.down):G:=f ⟨h⟩
theorem δZ {G H:Prop} (h:H)(f:PLift H->G:=by intro Zz;have g3:=Tg w Lw;have NW:=Lw.size;(try simp at NW);revert NW;revert g3;exact Zz.down):G:=f ⟨h⟩
theorem δ0 {G H:Prop} (h:H)(f:PLift H->G:=by intro Zz;refine eR wr (λx=>x=w.heap.size) (λv=>ah v w #[(aX (Y)),(ct (Y)),(iU (Y)),(jT (Y))] 70) ρB (λ_ kx=>kx) ?_;exact Zz.down):G:=f ⟨h⟩
theorem δ1 {G H:Prop} (h:H)(f:PLift H->G:=by intro Zz;refine eR v1 (λx=>x=w.heap.size) (λv=>ah v w #[Kn,Kz,ι ε 2] 82) ρB (λ_ kx=>kx) ?_;rintro v9 R9 k9;have Mh:=R9.cell;refine qO (v:=φ #[Kn,Kz,ι ε 2]) σm rfl ?_;revert Mh;revert k9;revert R9;revert v9;exact Zz.down):G:=f ⟨h⟩
theorem δ2 {G H:Prop} (h:H)(f:PLift H->G:=by intro Zz;refine δf ?_;intro w1 Kr C1;have R1:ah w1 (w+1) #[Ky,Ky] 232:=Zv Kr;refine η0 ?_;intro g1 KN;clear Kr;have Rr:=θ2 C1.r R1.r;revert Rr;revert KN;revert g1;revert R1;revert C1;revert w1;exact Zz.down):G:=f ⟨h⟩
theorem δ3 {G H:Prop} (h:H)(f:PLift H->G:=by intro Zz;refine aI (λv=>Below w w v/\ah v w (dG l.has l.D l.E l.p l.e l.t) 238/\ah v (w+1) nt 238) ⟨ρE,ρB,ρB⟩ ?_;exact Zz.down):G:=f ⟨h⟩
end Go.Proofs.YtfdlemkplejdnaaGreat
