/- WholeDelay, part 32. Conditions: none. -/
import Derived.Test.YtfdlemkplejdnaaGreatA26
import Derived.Test.YtfdlemkplejdnaaGreatA30
namespace Go.Proofs.YtfdlemkplejdnaaGreat
open Go.RowKit Go.Sort
open Value renaming int->ι,pointer->ψ,slice->ζ,tuple->χ,agg->φ,map->μ,bool->β
open IntKind renaming u64->υ,i64->ε,u16->ω
open Ending renaming returned->ϰ
open Go.Proofs.Tryz renaming prog->Ψ,underlying3->Θ,underlying147->Δ,underlying152->Γ,underlying202->Φ,underlying39->Ξ,underlying207->Ω
open Go renaming World->ϖ,Value->ϗ
set_option linter.unusedVariables false
set_option linter.unusedSimpArgs false
set_option maxHeartbeats 8000000
set_option maxRecDepth 100000
theorem Gp (t:Int)(ht:1<=t/\t<=65536)(sl:ϗ)(l:List CD)(w:ϖ)(B:Nat)(G:aS 3 fu w B sl l)(hl:l.length<=49)(hc:∀c ∈ l,cV c.r0 c.r1 c.r2):Calls Ψ 108 #[ι ε t,sl] w λe w'=>∃n,e=ϰ (ι ε n)/\Below w w w'/\(l=[]->n=0):=by
 have hw0:=w.heap.size;obtain⟨oa,oc,rfl,Uj⟩:=G.slice;obtain⟨n,hn⟩:=Nq l.length;rw[hn] at G ⊢;replace hn:=ag hn;go_in;go_wp2_with fail;refine δN ?_;rintro v1 k1;refine(Gt t ht (ζ oa n oc) l v1 B (G.below k1) hl hc).mono ?_;rintro e v2 ⟨rfl,kx⟩;have k2:=k1.trans (kx.mono k1.size);go_wp2_with fail;refine au v2 (λv=>Below v2 v2 v) (λv=>Below v2 v2 v) ρE (λkx=>kx) ?_;rintro v3 OG;have k3:=k2.trans (OG.mono k2.size);refine(Gq t ht (ζ oa n oc) l v3 B (G.below k3) hl hc).mono ?_;rintro e v4 ⟨k,b,rfl,ky,hb⟩;have k4:=k3.trans (ky.mono k3.size);cases b with
 | true=>go_wp2;go_ret;exact⟨22,rfl,k4.trans ρE,λe=>az (hb e) ρp⟩
 | false=>go_wp2;go_ret;exact⟨0,rfl,k4.trans ρE,λ_=>rfl⟩
theorem xI:sq:=λt v l w base H ht hl hc=>Gp t ht v l w w (af.rd H (λ_=>rfl)) hl hc
theorem DW (v:ϗ)(L:List (Int × CD))(t:Int)(hc:∀c ∈ L,CN c.2)(w:ϖ)(B:Nat)(G:aS 15 py w B v L)(hl:L.length<=1000):Calls Ψ 26 #[Kn,ι ε t,v] w λe w'=>∃sa sn sc i m,e=ϰ (φ #[ζ sa sn sc,ι ε i,ι ε m])/\(m=0->∃M,af 43 14 eI w' w (ζ sa sn sc) M/\dw L [] M/\(1<=t/\t<=65536)/\L.length<=32/\xc t (M.filter λc:CD=>de (kd c.r0 c.r1 c.r2)))/\Below w w w':=by
 obtain⟨oa,oc,rfl,-⟩:=G.slice;refine δf ?_;clear G hl;intro n hn G hl zB;go_in;go_upto_region 1 with fail;refine Jw (θ2 (Ks (λ_=>False) w) G) (λv=>ah v w #[Kn,Kz,Kz] 82) ρB ?_;rintro v1 A1 ⟨I',G1⟩;have Rr:=A1.r;by_cases c1:t<1
 ·have d1:=ZT c1;exact ξh
 have d1:=ZF c1;by_cases c2:65536<t
 ·have d2:=ZT c2;exact ξh
 have d2:=ZF c2;by_cases c3:32<n
 ·have d3:=dt ((32:Int)<(n:Int));go_wp2_with fail;refine δX ?_;intro v9 R9 k9 KS;exact⟨_,_,_,_,2,rfl,λh=>az h ρf,I'.toBelow.trans (k9.below I'.size ρF)⟩
 have d3:=df ((32:Int)<(n:Int));go_wp2_with fail;go_loopw [7,25] (λo k wr=>∃(a b:List (Int × CD)) (M:List CD) (ma:Option Addr) (mn mc:Nat),k=ι ε (a.length:Nat)/\L=a++b/\(o=ζ ma mn mc)/\(dw a [] M)/\(M.length<=a.length)/\(∀c ∈ M,CN c)/\(af 43 14 eI wr (w+1) o M)/\ah wr w #[Kn,Kz,Kz] 82/\aS 15 py wr B (ζ oa n oc) L/\KO (λ_=>False) w wr) (λ_ k _=>n - (intOf k).toNat);case atStart=>exact⟨[],L,[],none,0,0,rfl,rfl,rfl,rfl,ZR _,λc h=>az h ρp,af.nil _ _,ρB,G1.below ρE,I'.step0 ρE⟩
 case round=>
  obtain⟨a,b,M,ma,mn,mc,rfl,JK,rfl,KZ,hMq,hMn,M0,A0,G0,JG⟩:=hrel;refine δa ?_;intro zw JO q hq;rw[hq] at JO ⊢;rw[hq] at hMq;have Ss:=A0.r;cases b with
  | nil=>
   refine η4 ?_;intro JM hd;have KT:L=a:=ρL;have WU:M.length<=1000:=ρa;change Hid _ at JO JK hq KT KZ hMq;go_wp2_with fail;refine Zc (θ3 JG A0 M0) ?_;rintro v1 ⟨I',A1,M1⟩;refine(Ec _ M hMn v1 _ (af.rd M1 (λ_=>rfl)) WU).mono ?_;rintro e v2 ⟨u,rfl,HR,kx⟩;clear Rr Ss;obtain⟨⟨A2,M2,JE⟩,Rr⟩:=Mx kx (θ3 A1 M1 I');clear kx;obtain⟨Rs,hRs⟩:=Nq (List.filter (λc:CD=>de (kd c.r0 c.r1 c.r2)) M);have hRl:Rs.length<=1000:=by rw[<- hRs];exact ZK (ZH _ _) WU
   have hRn:∀c ∈ Rs,CN c:=λc hc=>hMn c (by rw[<- hRs] at hc;exact(ZE.1 hc).1);rw[hRs] at HR;replace hRs:=ag hRs;have R2:=af.rd HR (λ_=>rfl);obtain⟨B3,VR⟩:=Nq v2.heap.size;rw[VR] at R2;clear VR HR;obtain⟨ra,rc,rfl,-⟩:=R2.slice;obtain⟨rn,Tp⟩:=Nq Rs.length;rw[Tp] at R2 hRl ⊢;go_wp2_with fail;refine Zc (θ4 JE A2 M2 R2) ?_;rintro v3 ⟨JI,A3,M3,R3⟩;refine(FQ _ Rs t ⟨by omega,by omega⟩ hRn v3 B3 R3 ρa).mono ?_;rintro e v4 ⟨m,rfl,hm,kx⟩;clear Rr;obtain⟨⟨A4,M4,R4,JJ⟩,Rr⟩:=Mx kx (θ4 A3 M3 R3 JI);clear kx;go_wp2_with fail;refine eD v4 (λx=>x=w.heap.size) (λv=>ah v w #[ζ ma mn mc,Kz,ι ε m] 82) ρB (λ_ kx=>kx) ?_;rintro v9 R9 k9;have KS:=R9.cell;refine ZO (v:=φ #[ζ ma mn mc,Kz,ι ε m]) σn rfl ?_;exact⟨ma,mn,mc,0,m,rfl,λh=>⟨M,(af.ko M4 k9 (λy hy _ e=>by omega)).base_le ρa,by rw[KT.out];exact KZ.out,⟨by omega,by omega⟩,by omega,by rw[hRs.out];exact hm h⟩,JJ.toBelow.trans (k9.below JJ.size ρF)⟩
  | cons c r=>
   refine δD ?_;intro JM hd Kd;have Le:c ∈ L:=ρP;have My:q<n:=ρa;have Wn:B<=wr:=σe;obtain⟨g0,off,rfl,hg,RA⟩:=G0.at Kd;have Oc:g0<wr:=ρa;obtain⟨kd9,x⟩:=c;have hcx:CN x:=hc _ Le;have WU:M.length<=1000:=ρa;change Hid _ at JO hq JK Kd KZ hn;go_upto_region 8 with (fail);go_upto_region 9 with (refine Go.wpList_load_mid rfl 86 _ rfl g0 (off+q*15) rfl (py (kd9,x)) _ RA Tryz.underlying86 rfl ρh ?_;try simp only[py]);refine jf (θ4 JG A0 G0 M0) (λv=>ah v wr #[ι ε kd9,ι ε x.id,ι ε x.par,β x.lf,x.r0,x.r1,x.r2,x.l0,x.l1,x.l2,x.u0,x.u1,x.u2,ι ε x.pk,ι ε x.by_] 86) ρB ?_;clear Rr Ss;rintro v1 X1 ⟨I',A1,G1,M1⟩ Rr;have Ss:=X1.r;go_wp2_with fail;refine Zc (θ5 I' A1 G1 M1 X1) ?_;rintro v2 ⟨JE,A2,G2,M2,X2⟩;refine(Ih _ M kd9 x hcx hMn v2 _ (af.rd M2 (λ_=>rfl)) WU).mono ?_;rintro e v3 ⟨sa,sn,sc,m,rfl,hm,kx⟩;clear Rr Ss;obtain⟨⟨A3,G3,M3,X3,JI⟩,Rr⟩:=Mx kx (θ5 A2 G2 M2 X2 JE);clear kx;by_cases cm:m=0
   rotate_left
   ·have dm:(m !=0)=true:=by simpa using cm
    go_wp2_with fail;refine eD v3 (λx=>x=w.heap.size) (λv=>ah v w #[Kn,ι ε q,ι ε m] 82) ρB (λ_ kx=>kx) ?_;rintro v9 R9 k9;have KS:=R9.cell;refine ZO (v:=φ #[Kn,ι ε q,ι ε m]) σn rfl ?_;exact⟨_,_,_,q,m,rfl,λh=>az h cm,JI.toBelow.trans (k9.below JI.size ρF)⟩
   obtain⟨M',HM,hs⟩:=hm cm;subst cm;have Ly:=KZ.out.snoc hs;obtain⟨Sz,hk2⟩:=hs.keep hcx hMn;have M3':=af.base_le HM (show w.heap.size+1<=v2.heap.size from A2.size);clear HM hm;replace Ly:=ag Ly;go_wp2;go_roundw;case rel=>exact⟨a++[(kd9,x)],r,M',sa,sn,sc,by rw[ZL,hq.out];go_num,by rw[JK.out];simp,rfl,Ly.out,by rw[ZL,hq.out];simp;omega,hk2,af.below M3' ρE,ρB,G3.below ρE,JI.step0 ρE⟩
   case measure=>exact ξc
theorem Bo (v:ϗ)(L:List (Int × CD))(t:Int)(w:ϖ)(B:Nat)(G:aS 15 py w B v L)(hl:32<L.length):Calls Ψ 26 #[Kn,ι ε t,v] w λe w'=>∃sa sn sc i m,e=ϰ (φ #[ζ sa sn sc,ι ε i,ι ε m])/\(m=0->∃M,af 43 14 eI w' w (ζ sa sn sc) M/\dw L [] M/\(1<=t/\t<=65536)/\L.length<=32/\xc t (M.filter λc:CD=>de (kd c.r0 c.r1 c.r2)))/\Below w w w':=by
 obtain⟨oa,oc,rfl,-⟩:=G.slice;obtain⟨n,hn⟩:=Nq L.length;rw[hn] at G hl ⊢;go_in;go_upto_region 1 with fail;refine Jw (θ2 (Ks (λ_=>False) w) G) (λv=>ah v w #[Kn,Kz,Kz] 82) ρB ?_;rintro v1 A1 ⟨I',G1⟩;have Rr:=A1.r;by_cases c1:t<1
 ·have d1:=ZT c1;exact ξh
 have d1:=ZF c1;by_cases c2:65536<t
 ·have d2:=ZT c2;exact ξh
 have d2:=ZF c2;have d3:=dt ((32:Int)<(n:Int));go_wp2_with fail;refine δX ?_;intro v9 R9 k9 KS;exact⟨_,_,_,_,2,rfl,λh=>az h ρf,I'.toBelow.trans (k9.below I'.size ρF)⟩
theorem Bn (v:ϗ)(L:List (Int × CD))(t:Int)(hc:∀c ∈ L,CN c.2)(w:ϖ)(B:Nat)(G:aS 15 py w B v L):Calls Ψ 26 #[Kn,ι ε t,v] w λe w'=>∃sa sn sc i m,e=ϰ (φ #[ζ sa sn sc,ι ε i,ι ε m])/\(m=0->∃M,af 43 14 eI w' w (ζ sa sn sc) M/\dw L [] M/\(1<=t/\t<=65536)/\L.length<=32/\xc t (M.filter λc:CD=>de (kd c.r0 c.r1 c.r2)))/\Below w w w':=by
 by_cases h:32<L.length
 ·exact Bo v L t w B G h
 ·exact DW v L t hc w B G ρa
end Go.Proofs.YtfdlemkplejdnaaGreat
