/- WholeBehind, part 33. Conditions: none. -/
import Derived.Test.YtfdlemkplejdnaaGreatA26
import Derived.Test.YtfdlemkplejdnaaGreatA31
namespace Go.Proofs.YtfdlemkplejdnaaGreat
open Go.RowKit Go.Sort
open Value renaming int->ι,pointer->ψ,slice->ζ,tuple->χ,agg->φ,map->μ,bool->β
open IntKind renaming u64->υ,i64->ε,u16->ω
open Ending renaming returned->ϰ
open Go.Proofs.Tryz renaming prog->Ψ,underlying3->Θ,underlying147->Δ,underlying152->Γ,underlying202->Φ,underlying39->Ξ,underlying207->Ω
open Go renaming World->ϖ,Value->ϗ
set_option linter.unusedVariables false
set_option linter.unusedSimpArgs false
set_option maxHeartbeats 8000000
set_option maxRecDepth 100000
theorem Fq (t:Int)(ht:1<=t/\t<=65536)(sl:ϗ)(l:List CD)(w:ϖ)(B:Nat)(G:az 3 fo w B sl l)(hl:l.length<=49)(hc:∀c ∈ l,iO c.r0 c.r1 c.r2):Calls Ψ 108 #[ι ε t,sl] w λe w'=>∃n,e=ϰ (ι ε n)/\Below w w w'/\(l=[]->n=0):=by
 have hw0:=w.heap.size;obtain⟨oa,oc,rfl,Tu⟩:=G.slice;obtain⟨n,hn⟩:=Nq l.length;rw[hn] at G ⊢;replace hn:=ag hn;go_in;go_wp2_with fail;refine δR ?_;rintro v1 k1;refine(Fu t ht (ζ oa n oc) l v1 B (G.below k1) hl hc).mono ?_;rintro e v2 ⟨rfl,kx⟩;have k2:=k1.trans (kx.mono k1.size);go_wp2_with fail;refine av v2 (λv=>Below v2 v2 v) (λv=>Below v2 v2 v) ρE (λkx=>kx) ?_;rintro v3 NT;have k3:=k2.trans (NT.mono k2.size);refine(Fr t ht (ζ oa n oc) l v3 B (G.below k3) hl hc).mono ?_;rintro e v4 ⟨k,b,rfl,ky,hb⟩;have k4:=k3.trans (ky.mono k3.size);cases b with
 | true=>go_wp2;go_ret;exact⟨22,rfl,k4.trans ρE,λe=>ax (hb e) ρp⟩
 | false=>go_wp2;go_ret;exact⟨0,rfl,k4.trans ρE,λ_=>rfl⟩
theorem wH:ru:=λt v l w base H ht hl hc=>Fq t ht v l w w (ae.rd H (λ_=>rfl)) hl hc
theorem CW (v:ϗ)(L:List (Int × CD))(t:Int)(hc:∀c ∈ L,CN c.2)(w:ϖ)(B:Nat)(G:az 15 pg w B v L)(hl:L.length<=1000):Calls Ψ 26 #[Kn,ι ε t,v] w λe w'=>∃sa sn sc i m,e=ϰ (φ #[ζ sa sn sc,ι ε i,ι ε m])/\(m=0->∃M,ae 43 14 dR w' w (ζ sa sn sc) M/\dq L [] M/\(1<=t/\t<=65536)/\L.length<=32/\Ca t (M.filter λc:CD=>cW (kd c.r0 c.r1 c.r2)))/\Below w w w':=by
 obtain⟨oa,oc,rfl,-⟩:=G.slice;refine δi ?_;clear G hl;intro n hn G hl zB;go_in;go_upto_region 1 with fail;refine Jw (θ2 (Ks (λ_=>False) w) G) (λv=>ah v w #[Kn,Kz,Kz] 82) ρB ?_;rintro v1 A1 ⟨F',G1⟩;have Rr:=A1.r;by_cases c1:t<1
 ·have d1:=ZT c1;exact ξi
 have d1:=ZF c1;by_cases c2:65536<t
 ·have d2:=ZT c2;exact ξi
 have d2:=ZF c2;by_cases c3:32<n
 ·have d3:=dt ((32:Int)<(n:Int));go_wp2_with fail;refine δ1 ?_;intro v9 R9 k9 Kd;exact⟨_,_,_,_,2,rfl,λh=>ax h ρf,F'.toBelow.trans (k9.below F'.size ρC)⟩
 have d3:=df ((32:Int)<(n:Int));go_wp2_with fail;go_loopw [7,25] (λo k wr=>∃(a b:List (Int × CD)) (M:List CD) (ma:Option Addr) (mn mc:Nat),k=ι ε (a.length:Nat)/\L=a++b/\(o=ζ ma mn mc)/\(dq a [] M)/\(M.length<=a.length)/\(∀c ∈ M,CN c)/\(ae 43 14 dR wr (w+1) o M)/\ah wr w #[Kn,Kz,Kz] 82/\az 15 pg wr B (ζ oa n oc) L/\KO (λ_=>False) w wr) (λ_ k _=>n - (intOf k).toNat);case atStart=>exact⟨[],L,[],none,0,0,rfl,rfl,rfl,rfl,ZR _,λc h=>ax h ρp,ae.nil _ _,ρB,G1.below ρE,F'.step0 ρE⟩
 case round=>
  obtain⟨a,b,M,ma,mn,mc,rfl,IF,rfl,JY,hMq,hMn,M0,A0,G0,IB⟩:=hrel;refine δe ?_;intro zw IK q hq;rw[hq] at IK ⊢;rw[hq] at hMq;have Ss:=A0.r;cases b with
  | nil=>
   refine η8 ?_;intro IJ hd;have Ke:L=a:=ρN;have Wa:M.length<=1000:=ρa;change Hid _ at IK IF hq Ke JY hMq;go_wp2_with fail;refine Zc (θ3 IB A0 M0) ?_;rintro v1 ⟨F',A1,M1⟩;refine(Dd _ M hMn v1 _ (ae.rd M1 (λ_=>rfl)) Wa).mono ?_;rintro e v2 ⟨u,rfl,HR,kx⟩;clear Rr Ss;obtain⟨⟨A2,M2,Iz⟩,Rr⟩:=Mx kx (θ3 A1 M1 F');clear kx;obtain⟨Rs,hRs⟩:=Nq (List.filter (λc:CD=>cW (kd c.r0 c.r1 c.r2)) M);have hRl:Rs.length<=1000:=by rw[<- hRs];exact ZK (ZH _ _) Wa
   have hRn:∀c ∈ Rs,CN c:=λc hc=>hMn c (by rw[<- hRs] at hc;exact(List.mem_filter.1 hc).1);rw[hRs] at HR;replace hRs:=ag hRs;have R2:=ae.rd HR (λ_=>rfl);obtain⟨B3,Vd⟩:=Nq v2.heap.size;rw[Vd] at R2;clear Vd HR;obtain⟨ra,rc,rfl,-⟩:=R2.slice;obtain⟨rn,Sw⟩:=Nq Rs.length;rw[Sw] at R2 hRl ⊢;go_wp2_with fail;refine Zc (θ4 Iz A2 M2 R2) ?_;rintro v3 ⟨ID,A3,M3,R3⟩;refine(EJ _ Rs t ⟨by omega,by omega⟩ hRn v3 B3 R3 ρa).mono ?_;rintro e v4 ⟨m,rfl,hm,kx⟩;clear Rr;obtain⟨⟨A4,M4,R4,IC⟩,Rr⟩:=Mx kx (θ4 A3 M3 R3 ID);clear kx;go_wp2_with fail;refine eu v4 (λx=>x=w.heap.size) (λv=>ah v w #[ζ ma mn mc,Kz,ι ε m] 82) ρB (λ_ kx=>kx) ?_;rintro v9 R9 k9;have Kd:=R9.cell;refine ZO (v:=φ #[ζ ma mn mc,Kz,ι ε m]) σo rfl ?_;exact⟨ma,mn,mc,0,m,rfl,λh=>⟨M,(ae.ko M4 k9 (λy hy _ e=>by omega)).base_le ρa,by rw[Ke.out];exact JY.out,⟨by omega,by omega⟩,by omega,by rw[hRs.out];exact hm h⟩,IC.toBelow.trans (k9.below IC.size ρC)⟩
  | cons c r=>
   refine δb ?_;intro IJ hd;have Jm:L[q]?=some c:=ρF;have Ku:c ∈ L:=ρR;have KL:q<n:=ρa;have YD:B<=wr:=σk;obtain⟨g0,II,rfl,hg,RA⟩:=G0.at Jm;have Na:g0<wr:=ρa;obtain⟨kd9,x⟩:=c;have hcx:CN x:=hc _ Ku;have Wa:M.length<=1000:=ρa;change Hid _ at IK hq IF Jm JY hn;go_upto_region 8 with (fail);go_upto_region 9 with (refine Go.wpList_load_mid rfl 86 _ rfl g0 (II+q*15) rfl (pg (kd9,x)) _ RA Tryz.underlying86 rfl ρh ?_;try simp only[pg]);refine jf (θ4 IB A0 G0 M0) (λv=>ah v wr #[ι ε kd9,ι ε x.id,ι ε x.par,β x.lf,x.r0,x.r1,x.r2,x.l0,x.l1,x.l2,x.u0,x.u1,x.u2,ι ε x.pk,ι ε x.by_] 86) ρB ?_;clear Rr Ss;rintro v1 X1 ⟨F',A1,G1,M1⟩ Rr;have Ss:=X1.r;go_wp2_with fail;refine Zc (θ5 F' A1 G1 M1 X1) ?_;rintro v2 ⟨Iz,A2,G2,M2,X2⟩;refine(Gm _ M kd9 x hcx hMn v2 _ (ae.rd M2 (λ_=>rfl)) Wa).mono ?_;rintro e v3 ⟨sa,sn,sc,m,rfl,hm,kx⟩;clear Rr Ss;obtain⟨⟨A3,G3,M3,X3,ID⟩,Rr⟩:=Mx kx (θ5 A2 G2 M2 X2 Iz);clear kx;by_cases cm:m=0
   rotate_left
   ·have dm:(m !=0)=true:=by simpa using cm
    go_wp2_with fail;refine eu v3 (λx=>x=w.heap.size) (λv=>ah v w #[Kn,ι ε q,ι ε m] 82) ρB (λ_ kx=>kx) ?_;rintro v9 R9 k9;have Kd:=R9.cell;refine ZO (v:=φ #[Kn,ι ε q,ι ε m]) σo rfl ?_;exact⟨_,_,_,q,m,rfl,λh=>ax h cm,ID.toBelow.trans (k9.below ID.size ρC)⟩
   obtain⟨M',HM,hs⟩:=hm cm;subst cm;have JB:=JY.out.snoc hs;obtain⟨Vh,PF⟩:=hs.keep hcx hMn;have M3':=ae.base_le HM (show w.heap.size+1<=v2.heap.size from A2.size);clear HM hm;replace JB:=ag JB;go_wp2;go_roundw;case rel=>exact⟨a++[(kd9,x)],r,M',sa,sn,sc,by rw[ZL,hq.out];go_num,by rw[IF.out];simp,rfl,JB.out,by rw[ZL,hq.out];simp;omega,PF,ae.below M3' ρE,ρB,G3.below ρE,ID.step0 ρE⟩
   case measure=>exact ξc
theorem Am (v:ϗ)(L:List (Int × CD))(t:Int)(w:ϖ)(B:Nat)(G:az 15 pg w B v L)(hl:32<L.length):Calls Ψ 26 #[Kn,ι ε t,v] w λe w'=>∃sa sn sc i m,e=ϰ (φ #[ζ sa sn sc,ι ε i,ι ε m])/\(m=0->∃M,ae 43 14 dR w' w (ζ sa sn sc) M/\dq L [] M/\(1<=t/\t<=65536)/\L.length<=32/\Ca t (M.filter λc:CD=>cW (kd c.r0 c.r1 c.r2)))/\Below w w w':=by
 obtain⟨oa,oc,rfl,-⟩:=G.slice;obtain⟨n,hn⟩:=Nq L.length;rw[hn] at G hl ⊢;go_in;go_upto_region 1 with fail;refine Jw (θ2 (Ks (λ_=>False) w) G) (λv=>ah v w #[Kn,Kz,Kz] 82) ρB ?_;rintro v1 A1 ⟨F',G1⟩;have Rr:=A1.r;by_cases c1:t<1
 ·have d1:=ZT c1;exact ξi
 have d1:=ZF c1;by_cases c2:65536<t
 ·have d2:=ZT c2;exact ξi
 have d2:=ZF c2;have d3:=dt ((32:Int)<(n:Int));go_wp2_with fail;refine δ1 ?_;intro v9 R9 k9 Kd;exact⟨_,_,_,_,2,rfl,λh=>ax h ρf,F'.toBelow.trans (k9.below F'.size ρC)⟩
theorem Al (v:ϗ)(L:List (Int × CD))(t:Int)(hc:∀c ∈ L,CN c.2)(w:ϖ)(B:Nat)(G:az 15 pg w B v L):Calls Ψ 26 #[Kn,ι ε t,v] w λe w'=>∃sa sn sc i m,e=ϰ (φ #[ζ sa sn sc,ι ε i,ι ε m])/\(m=0->∃M,ae 43 14 dR w' w (ζ sa sn sc) M/\dq L [] M/\(1<=t/\t<=65536)/\L.length<=32/\Ca t (M.filter λc:CD=>cW (kd c.r0 c.r1 c.r2)))/\Below w w w':=by
 by_cases h:32<L.length
 ·exact Am v L t w B G h
 ·exact CW v L t hc w B G ρa
end Go.Proofs.YtfdlemkplejdnaaGreat
