/- WholeBehind, part 42. Conditions: none. -/
import Derived.Test.YtfdlemkplejdnaaGreatA41
namespace Go.Proofs.YtfdlemkplejdnaaGreat
open Go.RowKit Go.Sort
open Value renaming int->ι,pointer->ψ,slice->ζ,tuple->χ,agg->φ,map->μ,bool->β
open IntKind renaming u64->υ,i64->ε,u16->ω
open Ending renaming returned->ϰ
open Go.Proofs.Tryz renaming prog->Ψ,underlying3->Θ,underlying147->Δ,underlying152->Γ,underlying202->Φ,underlying39->Ξ,underlying207->Ω
open Go renaming World->ϖ,Value->ϗ
set_option linter.unusedVariables false
set_option linter.unusedSimpArgs false
set_option maxHeartbeats 8000000
set_option maxRecDepth 100000
def ju (par s:Int)(c:CD):Prop:=kd c.r0 c.r1 c.r2<=1/\kd c.u0 c.u1 c.u2<=1/\(c.par=par->2<=kd c.l0 c.l1 c.l2->kd c.l0 c.l1 c.l2=2/\s<=c.l2)
theorem Dr (v:ϗ)(L:List CD)(par:Int)(Ly:∀c ∈ L,CN c)(w:ϖ)(B:Nat)(G:az 14 dR w B v L)(hl:L.length<=1000):Calls Ψ 18 #[v,ι ε par] w λe w'=>∃s:Int,e=ϰ s/\(0<=s/\s<=Me)/\(s≠0->∀c ∈ L,ju par s c)/\Below w w w':=by
 obtain⟨oa,oc,rfl,-⟩:=G.slice;obtain⟨n,hn⟩:=Nq L.length;rw[hn] at G hl ⊢;have zB:B<=w:=ρu;go_in;go_wp2_with fail;go_loopw [5,10] (λo k wr=>∃(a b:List CD) (s:Int),k=ι ε (a.length:Nat)/\L=a++b/\(o=s)/\(0<=s/\s<=Me)/\(∀c ∈ a,ju par s c)/\az 14 dR wr B (ζ oa n oc) L/\KO (λ_=>False) w wr) (λ_ k _=>n - (intOf k).toNat);case atStart=>exact⟨[],L,4294967296,rfl,rfl,rfl,by omega,by simp,G.below ρE,ρK⟩
 case round=>
  obtain⟨a,b,s,rfl,IF,rfl,Ka,hs,G0,IB⟩:=hrel;have zw:=IB.size;have IK:a.length+b.length=n:=ρy;obtain⟨q,hq⟩:=Nq a.length;rw[hq] at IK ⊢;cases b with
  | nil=>
   have IJ:¬(q:Int)<(n:Int):=ρo;have hd:=ZF IJ;have Ke:L=a:=ρN;have Sr:∀c ∈ L,ju par s c:=by rw[Ke];exact hs
   change Hid _ at Sr IK IF hq Ke hs;go_wp2;go_ret;exact⟨s,rfl,Ka,λ_=>Sr.out,IB.toBelow.trans ρE⟩
  | cons c r=>
   have IJ:(q:Int)<(n:Int):=ρo;have hd:=ZT IJ;have Jm:L[q]?=some c:=ρF;have Ku:c ∈ L:=ρR;have KL:q<n:=ρa;have YD:B<=wr:=σk;obtain⟨g0,II,rfl,hg,RA⟩:=G0.at Jm;have Na:g0<wr:=ρa;have JG:=Ly c Ku;obtain⟨k1,Vh⟩:=Nq (kd c.r0 c.r1 c.r2);obtain⟨k2,PF⟩:=Nq (kd c.u0 c.u1 c.u2);obtain⟨k3,hk3⟩:=Nq (kd c.l0 c.l1 c.l2);change Hid _ at IK hq IF Jm hn hs Vh PF hk3;go_upto_region 4 with (fail);go_upto_region 5 with (refine Go.wpList_load_mid rfl 43 _ rfl g0 (II+q*14) rfl (dR c) _ RA Tryz.underlying43 rfl ρh ?_;try simp only[dR]);refine Jw (θ2 IB G0) (λv=>ah v wr (fx c) 43) ρB ?_;rintro v1 X1 ⟨F',G1⟩;have Rr:=X1.r;go_wp2_with fail;refine Zc (θ3 F' G1 X1) ?_;rintro v2 ⟨Iz,G2,X2⟩;refine(bi c.r0 c.r1 c.r2 k1 v2 JG.1.1 JG.1.2.1 JG.1.2.2 Vh.out).mono ?_;rintro e v3 ⟨rfl,kx⟩;clear Rr;obtain⟨⟨G3,X3,ID⟩,Rr⟩:=Mx kx (θ3 G2 X2 Iz);clear kx;by_cases c1:1<k1
   ·have d1:=ZT c1;replace c1:=ag c1;go_wp2;go_ret;exact⟨0,rfl,by omega,λh=>ax rfl h,ID.toBelow.trans ρE⟩
   have d1:=ZF c1;go_wp2_with fail;refine Zc (θ3 ID G3 X3) ?_;rintro v4 ⟨IC,G4,X4⟩;refine(bi c.u0 c.u1 c.u2 k2 v4 JG.2.2.1 JG.2.2.2.1 JG.2.2.2.2 PF.out).mono ?_;rintro e v5 ⟨rfl,kx⟩;clear Rr;obtain⟨⟨G5,X5,IN⟩,Rr⟩:=Mx kx (θ3 G4 X4 IC);clear kx;by_cases c2:1<k2
   ·have d2:=ZT c2;replace c2:=ag c2;go_wp2;go_ret;exact⟨0,rfl,by omega,λh=>ax rfl h,IN.toBelow.trans ρE⟩
   have d2:=ZF c2;have h1:=ag (show kd c.r0 c.r1 c.r2<=1 by rw[Vh.out];omega);have h2:=ag (show kd c.u0 c.u1 c.u2<=1 by rw[PF.out];omega);clear c1 c2;by_cases c3:c.par=par
   rotate_left
   ·have d3:(c.par !=par)=true:=by simpa using c3
    replace c3:=ag c3;go_wp2;go_roundw;case rel=>exact⟨a++[c],r,s,by rw[ZL,hq.out];go_num,by rw[IF.out];simp,rfl,by omega,λy hy=>(ZM.1 hy).elim (λg=>hs.out y g) (λg=>by rw[ZS.1 g];exact⟨h1.out,h2.out,λg=>ax g c3.out⟩),G5.below ρE,IN.step0 ρE⟩
    case measure=>have:=IK.out;simp[intOf] at*;omega
   have d3:(c.par !=par)=false:=by simp[c3]
   replace c3:=ag c3;go_wp2_with fail;refine Zc (θ3 IN G5 X5) ?_;rintro v6 ⟨IQ,G6,X6⟩;refine(bi c.l0 c.l1 c.l2 k3 v6 JG.2.1.1 JG.2.1.2.1 JG.2.1.2.2 hk3.out).mono ?_;rintro e v7 ⟨rfl,kx⟩;clear Rr;obtain⟨⟨G7,X7,I8⟩,Rr⟩:=Mx kx (θ3 G6 X6 IQ);clear kx;by_cases c4:k3<2
   ·have d4:=ZT c4;have g4:=ag (show c.par=par->2<=kd c.l0 c.l1 c.l2->kd c.l0 c.l1 c.l2=2/\s<=c.l2 from λ_ g=>by rw[hk3.out] at g;omega);replace c4:=ag c4;go_wp2;go_roundw;case rel=>exact⟨a++[c],r,s,by rw[ZL,hq.out];go_num,by rw[IF.out];simp,rfl,by omega,λy hy=>(ZM.1 hy).elim (λg=>hs.out y g) (λg=>by rw[ZS.1 g];exact⟨h1.out,h2.out,g4.out⟩),G7.below ρE,I8.step0 ρE⟩
    case measure=>have:=IK.out;simp[intOf] at*;omega
   have d4:=ZF c4;go_wp2_with fail;refine Zc (θ3 I8 G7 X7) ?_;rintro v8 ⟨Je,G8,X8⟩;refine(bi c.l0 c.l1 c.l2 k3 v8 JG.2.1.1 JG.2.1.2.1 JG.2.1.2.2 hk3.out).mono ?_;rintro e v9 ⟨rfl,kx⟩;clear Rr;obtain⟨⟨G9,X9,Jl⟩,Rr⟩:=Mx kx (θ3 G8 X8 Je);clear kx;by_cases c5:k3=2
   rotate_left
   ·have d5:(k3 !=2)=true:=by simpa using c5
    replace c5:=ag c5;clear c4;go_wp2;go_ret;exact⟨0,rfl,by omega,λh=>ax rfl h,Jl.toBelow.trans ρE⟩
   have d5:(k3 !=2)=false:=by simp[c5]
   have Oj:0<=c.l2:=JG.2.1.2.2;have e5:=ag (show kd c.l0 c.l1 c.l2=2 by rw[hk3.out];exact c5);clear c4;replace c5:=ag c5;by_cases c6:c.l2<s
   ·have d6:=ZT c6;have Ja:=ag (show ∀y ∈ a,ju par c.l2 y from λy hy=>⟨(hs.out y hy).1,(hs.out y hy).2.1,λg1 g2=>⟨((hs.out y hy).2.2 g1 g2).1,by have:=((hs.out y hy).2.2 g1 g2).2;omega⟩⟩);go_wp2;go_roundw;case rel=>exact⟨a++[c],r,c.l2,by rw[ZL,hq.out];go_num,by rw[IF.out];simp,rfl,by omega,λy hy=>(ZM.1 hy).elim (λg=>Ja.out y g) (λg=>by rw[ZS.1 g];exact⟨h1.out,h2.out,λ_ _=>⟨e5.out,ZJ _⟩⟩),G9.below ρE,Jl.step0 ρE⟩
    case measure=>have:=IK.out;simp[intOf] at*;omega
   have d6:=ZF c6;go_wp2;go_roundw;case rel=>exact⟨a++[c],r,s,by rw[ZL,hq.out];go_num,by rw[IF.out];simp,rfl,by omega,λy hy=>(ZM.1 hy).elim (λg=>hs.out y g) (λg=>by rw[ZS.1 g];exact⟨h1.out,h2.out,λ_ _=>⟨e5.out,by omega⟩⟩),G9.below ρE,Jl.step0 ρE⟩
   case measure=>have:=IK.out;simp[intOf] at*;omega
end Go.Proofs.YtfdlemkplejdnaaGreat
