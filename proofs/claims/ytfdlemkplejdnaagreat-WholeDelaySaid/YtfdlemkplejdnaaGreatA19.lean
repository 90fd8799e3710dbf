/- WholeDelay, part 19. Conditions: none. -/
import Derived.Test.YtfdlemkplejdnaaGreatA13
namespace Go.Proofs.YtfdlemkplejdnaaGreat
open Go.RowKit Go.Sort
open Value renaming int->ι,pointer->ψ,slice->ζ,tuple->χ,agg->φ,map->μ,bool->β
open IntKind renaming u64->υ,i64->ε,u16->ω
open Ending renaming returned->ϰ
open Go.Proofs.Tryz renaming prog->Ψ,underlying3->Θ,underlying147->Δ,underlying152->Γ,underlying202->Φ,underlying39->Ξ,underlying207->Ω
open Go renaming World->ϖ,Value->ϗ
set_option linter.unusedVariables false
set_option linter.unusedSimpArgs false
set_option maxHeartbeats 8000000
set_option maxRecDepth 100000
theorem iA {x c:CD}:∀{L:List CD},c ∈ fy x L->c=x\/c ∈ L
 | [],h=>.inl (by simpa [fy] using h)
 | a::r,h=>by
  unfold fy at h;split at h
  ·rcases ZC.1 h with h|h
   ·exact .inl h
   ·exact .inr (sA _ h)
  ·rcases ZC.1 h with h|h
   ·exact .inr (by simp[h])
   ·exact(iA h).imp id (sA _)
theorem EB (L:List CD):(tl L).length=L.length:=by simp[tl]
theorem qW {x:CD} (hr:(0<=x.r0/\0<=x.r1/\0<=x.r2)/\(0<=x.l0/\0<=x.l1/\0<=x.l2)/\(0<=x.u0/\0<=x.u1/\0<=x.u2)) {lf:Bool} {a b c:Int} (h:wr x.id x.par lf a b c x.pk x.by_=0):x.ok:=by
 have:¬(x.id<1\/65536<x.id\/x.par<0\/65536<x.par\/x.id=x.par):=by intro q;unfold wr at h;rw[ZP q] at h;cases h
 exact⟨by omega,by omega,hr⟩
def um (x:CD)(L:List CD)(xs:List Int):Prop:=wr x.id x.par x.lf (kd x.r0 x.r1 x.r2) (kd x.l0 x.l1 x.l2) (kd x.u0 x.u1 x.u2) x.pk x.by_=0/\(fc L x.id).isSome=false/\L.length≠64/\x.par=0/\xs.length≠16
theorem Ib {x a:CD} {L:List CD} {xs:List Int} {t f:Bool} (g:um x L xs)(Kf:∀c ∈ L,c.ok)(ht:(x.par !=0)=t)(ha:dL L x.par=a)(hf:a.lf=f)(q:t=true\/f=true):False:=by
 obtain⟨_,_,_,h0,_⟩:=g;rw[h0] at ht ha;rcases q with rfl|rfl
 ·exact az ht ρf
 ·subst ha;unfold dL at hf;cases e:fc L 0 with
  | none=>rw[e] at hf;exact az hf ρf
  | some c=>have h:=Kf c (aL e).1;have h2:=(aL e).2;unfold CD.ok at h;omega
theorem yT (L:List CD):kJ L 0=true:=by unfold kJ;cases fc L 0<;>simp
theorem Fv (T M:Nat)(L:List CD)(x:CD)(xs:List Int)(w:ϖ)(H:aF w T M L)(hL:L.length<=1000)(hr:(0<=x.r0/\0<=x.r1/\0<=x.r2)/\(0<=x.l0/\0<=x.l1/\0<=x.l2)/\(0<=x.u0/\0<=x.u1/\0<=x.u2))(hu:dy L x.par xs)(JK:xs.length<=1000):Calls Ψ 140 #[T,φ (fd x)] w λe w'=>∃n L',e=ϰ (ι ε n)/\aF w' T M L'/\(n=0->L'=fy x L/\x.ok)/\(n≠0->L'=L)/\(um x L xs->n=0)/\KO (λy=>y=M) w w':=by
 obtain⟨T',M',Kf⟩:=H;have zT:=T'.size;have zM:=M'.size;have RR:=aC T' M';obtain⟨a,ha⟩:=Nq (dL L x.par);obtain⟨b,hb⟩:=Nq ((fc L x.par).isSome);obtain⟨a1,KH⟩:=Nq (dL L x.id);obtain⟨b1,JL⟩:=Nq ((fc L x.id).isSome);obtain⟨n0,Mu⟩:=Nq (wr x.id x.par x.lf (kd x.r0 x.r1 x.r2) (kd x.l0 x.l1 x.l2) (kd x.u0 x.u1 x.u2) x.pk x.by_);obtain⟨sx,Um⟩:=Nq (de (kd x.l0 x.l1 x.l2));obtain⟨sp,We⟩:=Nq (kJ L x.par);obtain⟨nL,hnL⟩:=Nq L.length;obtain⟨nx,NJ⟩:=Nq xs.length;have ha:=ag ha;have hb:=ag hb;have KH:=ag KH;have JL:=ag JL;have Mu:=ag Mu;have Um:=ag Um;have We:=ag We;have hnL:=ag hnL;have NJ:=ag NJ;have Rr:=T'.r;have J1:=(aD M' ha.out hb.out).1;have LZ:=(aD M' KH.out JL.out).1;have Mg:=(λty=>(aU Φ M' ty).trans ρ8);go_in;go_wp2_with fail;refine pw (θ3 (Ks (λy=>y=M) w) T' M') (λv=>ah v w (fd x) 43) ρB ?_;clear Rr;rintro v1 X1 ⟨I',Lu,NP⟩ Rr;replace J1:=(aD NP ha.out hb.out).1;replace LZ:=(aD NP KH.out JL.out).1;replace Mg:=(λty=>(aU Φ NP ty).trans ρ8);replace Rr:=X1.r;refine(ny x.id x.par x.lf x.r0 x.r1 x.r2 x.l0 x.l1 x.l2 x.u0 x.u1 x.u2 x.pk x.by_ _ hr.1 hr.2.1 hr.2.2 n0 Mu.out).mono ?_;rintro e v2 ⟨rfl,kx⟩;clear Rr;obtain⟨⟨Mk,Nl,X2,JE⟩,Rr⟩:=Mx kx (θ4 Lu NP X1 I');replace J1:=(aD Nl ha.out hb.out).1;replace LZ:=(aD Nl KH.out JL.out).1;replace Mg:=(λty=>(aU Φ Nl ty).trans ρ8);clear kx;by_cases e0:n0≠0
 ·have Tn:(n0 !=0)=true:=by simpa using e0
  go_wp2;go_ret;exact⟨n0,L,rfl,⟨Mk.below ρE Mk.size,Nl.below ρE,Kf⟩,λh=>az h e0,λ_=>rfl,λg=>az (Mu.out.symm.trans g.1) e0,JE.step0 ρE⟩
 have e0:n0=0:=ρa;subst e0;have Xx:x.ok:=qW hr Mu.out;go_upto_region 6 with (fail);go_cut [6,7] (λs6 s7 wx=>∃X:Nat,s6=X/\s7=β b1/\v2.heap.size<=X/\KO (λy=>y=M) w wx/\ah wx (T) #[.map (some M)] 204/\aB wx (M) (tl L)/\ah wx w (fd x) 43/\ah wx (X) (fd a1) 43);case first=>
  have l0a:=(aD (Nl.drew) KH.out JL.out).1;have l0b:=λo=>(aD ((Nl.alloc o).drew) KH.out JL.out).1;have l0c:=λo=>(aD ((Nl.drew).alloc o) KH.out JL.out).1;go_region
  all_goals
   go_wp2;go_meet;exact⟨_,rfl,rfl,by simp,JE.step0 ρE,ρB,Nl.below ρE,ρB,ρB⟩
 case rest=>
  obtain⟨PY,rfl,rfl,lY,JI,LG,NE,X3,Y3⟩:=hcut
  rename ϖ=>v3
  have zw3:=JI.size;have Ss:=LG.r;have J1:=(aD NE ha.out hb.out).1;have LZ:=(aD NE KH.out JL.out).1;have Mg:=(λty=>(aU Φ NE ty).trans ρ8);replace Ss:=θ3 LG.r X3.r Y3.r;go_upto_region 7 with (fail);go_cut [8,9] (λs8 s9 wx=>∃X:Nat,s8=X/\s9=β b/\v3.heap.size<=X/\KO (λy=>y=M) w wx/\ah wx (T) #[.map (some M)] 204/\aB wx (M) (tl L)/\ah wx w (fd x) 43/\ah wx (X) (fd a) 43);case first=>
   have l0a:=(aD (NE.drew) ha.out hb.out).1;have l0b:=λo=>(aD ((NE.alloc o).drew) ha.out hb.out).1;have l0c:=λo=>(aD ((NE.drew).alloc o) ha.out hb.out).1;go_region
   all_goals
    go_wp2;go_meet;exact⟨_,rfl,rfl,by simp,JI.step0 ρE,ρB,NE.below ρE,ρB,ρB⟩
  case rest=>
   obtain⟨PZ,rfl,rfl,lZ,JJ,Lv,Oi,X4,Z4⟩:=hcut
   rename ϖ=>v4
   have zw4:=JJ.size;replace Ss:=Lv.r;have J1:=(aD Oi ha.out hb.out).1;have LZ:=(aD Oi KH.out JL.out).1;have Mg:=(λty=>(aU Φ Oi ty).trans ρ8);replace Ss:=θ3 Lv.r X4.r Z4.r;by_cases e0:b1=true
   ·subst e0;go_wp2;go_ret;exact⟨8,L,rfl,⟨Lv.below ρE Lv.size,Oi.below ρE,Kf⟩,λh=>az h ρa,λ_=>rfl,λg=>az (JL.out.symm.trans g.2.1) ρf,JJ.step0 ρE⟩
   have e0:b1=false:=by simpa using e0
   subst e0;by_cases e1:nL=64
   ·have q:((nL:Int)==64)=true:=by simpa using ZG (Nat.cast (R:=Int)) e1
    go_wp2;go_ret;exact⟨5,L,rfl,⟨Lv.below ρE Lv.size,Oi.below ρE,Kf⟩,λh=>az h ρa,λ_=>rfl,λg=>az (hnL.out.trans e1) g.2.2.1,JJ.step0 ρE⟩
   have q1:((nL:Int)==64)=false:=ρJ;obtain⟨t,ht⟩:=Nq (x.par !=0);go_upto_region 12 with (fail);refine bK (θ5 JJ Lv Oi X4 Z4) ?_;clear Rr Ss;rintro v8 ⟨Ka,Rt,PS,X8,Z8⟩ Rr;replace J1:=(aD PS ha.out hb.out).1;replace LZ:=(aD PS KH.out JL.out).1;replace Mg:=(λty=>(aU Φ PS ty).trans ρ8);obtain⟨f,hf⟩:=Nq a.lf;rcases t with _|_<;>rcases b with _|_<;>rcases f with _|_
   all_goals try (go_wp2;go_ret;exact⟨23,L,rfl,⟨Rt.below ρE Rt.size,PS.below ρE,Kf⟩,λh=>az h ρa,λ_=>rfl,λg=>(Ib g Kf ht ha.out hf ρf).elim,Ka.step0 ρE⟩)
   all_goals
    go_wp2_with fail;refine sf (θ5 Ka Rt PS X8 Z8) ?_;clear Rr;rintro v9 ⟨Km,Sk,PU,X9,Z9⟩ Rr;replace J1:=(aD PU ha.out hb.out).1;replace LZ:=(aD PU KH.out JL.out).1;replace Mg:=(λty=>(aU Φ PU ty).trans ρ8);refine(lb _ x.id x.par x.lf x.r0 x.r1 x.r2 x.l0 x.l1 x.l2 x.u0 x.u1 x.u2 x.pk x.by_ hr.2.1 sx Um.out).mono ?_;rintro e N0 ⟨rfl,kx⟩;clear Rr;obtain⟨⟨Ol,MK,TV,WP,Kg⟩,Rr⟩:=Mx kx (θ5 Sk PU X9 Z9 Km);replace J1:=(aD MK ha.out hb.out).1;replace LZ:=(aD MK KH.out JL.out).1;replace Mg:=(λty=>(aU Φ MK ty).trans ρ8);clear kx;rcases sx with _|_
    ·go_wp2_with fail;refine sf (θ5 Kg Ol MK TV WP) ?_;clear Rr;rintro LD ⟨KE,MN,KY,UM,Yc⟩ Rr;replace J1:=(aD KY ha.out hb.out).1;replace LZ:=(aD KY KH.out JL.out).1;replace Mg:=(λty=>(aU Φ KY ty).trans ρ8);refine(xK T M L x.par xs _ ⟨MN,KY,Kf⟩ hu JK).mono ?_;rintro e Oe ⟨rfl,kx⟩;clear Rr;obtain⟨⟨Mp,Lk,NR,Z12,Kl⟩,Rr⟩:=Mx kx (θ5 MN KY UM Yc KE);replace J1:=(aD Lk ha.out hb.out).1;replace LZ:=(aD Lk KH.out JL.out).1;replace Mg:=(λty=>(aU Φ Lk ty).trans ρ8);clear kx;rw[NJ.out];by_cases e3:nx=16
     ·have q3:((nx:Int)==16)=true:=by simpa using ZG (Nat.cast (R:=Int)) e3
      go_wp2;go_ret;exact⟨25,L,rfl,⟨Mp.below ρE Mp.size,Lk.below ρE,Kf⟩,λh=>az h ρa,λ_=>rfl,λg=>az (NJ.out.trans e3) g.2.2.2.2,Kl.step0 ρE⟩
     have q3:((nx:Int)==16)=false:=ρJ;go_upto_region 18 with (fail);refine bK (θ5 Kl Mp Lk NR Z12) ?_;clear Rr;rintro PP ⟨Li,Nv,Ld,Pr,Zy⟩ Rr;replace J1:=(aD Ld ha.out hb.out).1;replace LZ:=(aD Ld KH.out JL.out).1;replace Mg:=(λty=>(aU Φ Ld ty).trans ρ8);have qT':=ae Nv;have RV:=λd os=>(aD (Ld.grow d os) ha.out hb.out).1;have qM'1:=λd os=>(aD (Ld.grow d os) KH.out JL.out).1;have qM'2:=λd os=>(λty=>(aU Φ (Ld.grow d os) ty).trans ρ8);have qX:=ae Pr;have qZ:=ae Zy;refine Ws 7 (gC ?_);refine bB (θ5 Nv Ld Pr Zy Li) ?_;clear Rr;rintro YP ⟨Rq,Nu,X14,Z14,OY⟩ Rr;replace J1:=(aD Nu ha.out hb.out).1;replace LZ:=(aD Nu KH.out JL.out).1;replace Mg:=(λty=>(aU Φ Nu ty).trans ρ8);clear qT' qX qZ RV qM'1 qM'2 Nv Ld Pr Zy;obtain⟨v15,Kk,NQ,kx,zx⟩:=bv Φ Θ Nu x.id (φ (fd x));have RQ:=OY.trans kx κj;have Pp:=Rq.ko kx (by intro h;omega);go_wp2;go_ret;exact⟨0,fy x L,rfl,⟨Pp.below ρE Pp.size,by rw[mD];exact NQ.below ρE,λc hc=>(iA hc).elim (λe=>e ▸ Xx) (Kf c)⟩,λ_=>⟨rfl,Xx⟩,λh=>az rfl h,λ_=>rfl,RQ.step0 ρE⟩
    ·go_wp2_with fail;refine sf (θ5 Kg Ol MK TV WP) ?_;clear Rr;rintro LD ⟨KE,MN,KY,UM,Yc⟩ Rr;replace J1:=(aD KY ha.out hb.out).1;replace LZ:=(aD KY KH.out JL.out).1;replace Mg:=(λty=>(aU Φ KY ty).trans ρ8);refine(uB T M L x.par _ ⟨MN,KY,Kf⟩).mono ?_;rintro e Oe ⟨rfl,kx⟩;clear Rr;obtain⟨⟨Mp,Lk,NR,Z12,Kl⟩,Rr⟩:=Mx kx (θ5 MN KY UM Yc KE);replace J1:=(aD Lk ha.out hb.out).1;replace LZ:=(aD Lk KH.out JL.out).1;replace Mg:=(λty=>(aU Φ Lk ty).trans ρ8);clear kx;rw[We.out];rcases sp with _|_
     ·go_wp2;go_ret;exact⟨29,L,rfl,⟨Mp.below ρE Mp.size,Lk.below ρE,Kf⟩,λh=>az h ρa,λ_=>rfl,λg=>by have h:=We.out;rw[g.2.2.2.1,yT] at h;exact az h ρf,Kl.step0 ρE⟩
     ·go_wp2_with fail;refine sf (θ5 Kl Mp Lk NR Z12) ?_;clear Rr;rintro PP ⟨Li,Nv,Ld,Pr,Zy⟩ Rr;replace J1:=(aD Ld ha.out hb.out).1;replace LZ:=(aD Ld KH.out JL.out).1;replace Mg:=(λty=>(aU Φ Ld ty).trans ρ8);refine(xK T M L x.par xs _ ⟨Nv,Ld,Kf⟩ hu JK).mono ?_;rintro e YP ⟨rfl,kx⟩;clear Rr;obtain⟨⟨Rq,Nu,X14,Z14,OY⟩,Rr⟩:=Mx kx (θ5 Nv Ld Pr Zy Li);replace J1:=(aD Nu ha.out hb.out).1;replace LZ:=(aD Nu KH.out JL.out).1;replace Mg:=(λty=>(aU Φ Nu ty).trans ρ8);clear kx;rw[NJ.out];by_cases e3:nx=16
      ·have q3:((nx:Int)==16)=true:=by simpa using ZG (Nat.cast (R:=Int)) e3
       go_wp2;go_ret;exact⟨25,L,rfl,⟨Rq.below ρE Rq.size,Nu.below ρE,Kf⟩,λh=>az h ρa,λ_=>rfl,λg=>az (NJ.out.trans e3) g.2.2.2.2,OY.step0 ρE⟩
      have q3:((nx:Int)==16)=false:=ρJ;go_upto_region 18 with (fail);refine bK (θ5 OY Rq Nu X14 Z14) ?_;clear Rr;rintro v15 ⟨RQ,Pp,NQ,X15,Z15⟩ Rr;replace J1:=(aD NQ ha.out hb.out).1;replace LZ:=(aD NQ KH.out JL.out).1;replace Mg:=(λty=>(aU Φ NQ ty).trans ρ8);have qT':=ae Pp;have RV:=λd os=>(aD (NQ.grow d os) ha.out hb.out).1;have qM'1:=λd os=>(aD (NQ.grow d os) KH.out JL.out).1;have qM'2:=λd os=>(λty=>(aU Φ (NQ.grow d os) ty).trans ρ8);have qX:=ae X15;have qZ:=ae Z15;refine Ws 7 (gC ?_);refine bB (θ5 Pp NQ X15 Z15 RQ) ?_;clear Rr;rintro v16 ⟨T'16,Wy,X16,Z16,k016⟩ Rr;replace J1:=(aD Wy ha.out hb.out).1;replace LZ:=(aD Wy KH.out JL.out).1;replace Mg:=(λty=>(aU Φ Wy ty).trans ρ8);clear qT' qX qZ RV qM'1 qM'2 Pp NQ X15 Z15;obtain⟨v17,Kk,M'17,kx,zx⟩:=bv Φ Θ Wy x.id (φ (fd x));have k017:=k016.trans kx κj;have T'17:=T'16.ko kx (by intro h;omega);go_wp2;go_ret;exact⟨0,fy x L,rfl,⟨T'17.below ρE T'17.size,by rw[mD];exact M'17.below ρE,λc hc=>(iA hc).elim (λe=>e ▸ Xx) (Kf c)⟩,λ_=>⟨rfl,Xx⟩,λh=>az rfl h,λ_=>rfl,k017.step0 ρE⟩
def pS (L:List CD)(id:Int):Bool:=de (kd (dL L id).l0 (dL L id).l1 (dL L id).l2)
theorem DD {L:List CD} (h:∀c ∈ L,c.ok)(id:Int):0<=(dL L id).l0/\0<=(dL L id).l1/\0<=(dL L id).l2:=by
 unfold dL;rcases hc:fc L id with _|c
 ·simp
 ·exact(h c (aL hc).1).2.2.2.1
theorem Hl (T M X:Nat)(L:List CD)(id:Int)(w:ϖ)(H:aF w T M L)(hX:ah w X #[T] 145):Calls Ψ 178 (#[ι ε id]++#[ψ X]) w λe w'=>e=ϰ (β (pS L id))/\Below w w w':=by obtain⟨T',M',Kf⟩:=H;have zT:=T'.size;have zM:=M'.size;have RR:=aC T' M';have ok:=DD Kf id;obtain⟨s,hs⟩:=Nq (pS L id);rw[hs];unfold pS at hs;obtain⟨a,ha⟩:=Nq (dL L id);rw[ha] at hs ok;replace hs:=ag hs;have cT:=T'.cell;have fT:=T'.frozen;have rX:=hX.r;have l1:=(aD M' ha rfl).2;go_in;go_wp2_with fail;refine(lb _ a.id a.par a.lf a.r0 a.r1 a.r2 a.l0 a.l1 a.l2 a.u0 a.u1 a.u2 a.pk a.by_ ok s hs.out).mono ?_;rintro e v ⟨rfl,hb⟩;go_wp2;go_ret;exact⟨rfl,hb⟩
theorem HF (T M:Nat)(L:List CD)(x:CD)(w:ϖ)(H:aF w T M L)(hL:L.length<=1000)(hr:(0<=x.r0/\0<=x.r1/\0<=x.r2)/\(0<=x.l0/\0<=x.l1/\0<=x.l2)/\(0<=x.u0/\0<=x.u1/\0<=x.u2)):Calls Ψ 141 #[T,φ (fd x)] w λe w'=>∃n L',e=ϰ (ι ε n)/\aF w' T M L'/\(n=0->L'=fy x L/\x.ok)/\(n≠0->L'=L)/\KO (λy=>y=M) w w':=by
 obtain⟨T',M',Kf⟩:=H;have zT:=T'.size;have zM:=M'.size;have RR:=aC T' M';obtain⟨a1,KH⟩:=Nq (dL L x.id);obtain⟨b1,JL⟩:=Nq ((fc L x.id).isSome);obtain⟨n0,Mu⟩:=Nq (wr x.id x.par x.lf (kd x.r0 x.r1 x.r2) (kd x.l0 x.l1 x.l2) (kd x.u0 x.u1 x.u2) x.pk x.by_);obtain⟨sx,Um⟩:=Nq (de (kd x.l0 x.l1 x.l2));obtain⟨sp,We⟩:=Nq (kJ L x.par);change Hid _ at KH JL Mu Um We;have Rr:=T'.r;have J1:=(aD M' KH.out JL.out).1;go_in;go_wp2_with fail;refine pw (θ3 (Ks (λy=>y=M) w) T' M') (λv=>ah v w #[T] 145/\ah v (w+1) (fd x) 43) ⟨ρB,ρB⟩ ?_;clear Rr;rintro v1 ⟨Q1,X1⟩ ⟨I',Lu,NP⟩ Rr;replace J1:=(aD NP KH.out JL.out).1;replace Rr:=θ2 Q1.r X1.r;refine(ny x.id x.par x.lf x.r0 x.r1 x.r2 x.l0 x.l1 x.l2 x.u0 x.u1 x.u2 x.pk x.by_ _ hr.1 hr.2.1 hr.2.2 n0 Mu.out).mono ?_;rintro e v2 ⟨rfl,kx⟩;clear Rr;obtain⟨⟨Mk,Nl,Q2,X2,JE⟩,Rr⟩:=Mx kx (θ5 Lu NP Q1 X1 I');replace J1:=(aD Nl KH.out JL.out).1;clear kx;by_cases e0:n0≠0
 ·have Tn:(n0 !=0)=true:=by simpa using e0
  go_wp2;go_ret;exact⟨n0,L,rfl,⟨Mk.below ρE Mk.size,Nl.below ρE,Kf⟩,λh=>az h e0,λ_=>rfl,JE.step0 ρE⟩
 have e0:n0=0:=ρa;subst e0;have Xx:x.ok:=qW hr Mu.out;go_upto_region 6 with (fail);go_cut [6,7] (λs6 s7 wx=>∃X:Nat,s6=X/\s7=β b1/\v2.heap.size<=X/\KO (λy=>y=M) w wx/\ah wx (T) #[.map (some M)] 204/\aB wx (M) (tl L)/\ah wx w #[T] 145/\ah wx (w+1) (fd x) 43/\ah wx (X) (fd a1) 43);case first=>
  have l0a:=(aD (Nl.drew) KH.out JL.out).1;have l0b:=λo=>(aD ((Nl.alloc o).drew) KH.out JL.out).1;have l0c:=λo=>(aD ((Nl.drew).alloc o) KH.out JL.out).1;go_region
  all_goals
   go_wp2;go_meet;exact⟨_,rfl,rfl,by simp,JE.step0 ρE,ρB,Nl.below ρE,ρB,ρB,ρB⟩
 case rest=>
  obtain⟨PY,rfl,rfl,lY,JI,LG,NE,Q3,X3,Y3⟩:=hcut
  rename ϖ=>v3
  have zw3:=JI.size;have Ss:=LG.r;have J1:=(aD NE KH.out JL.out).1;replace Ss:=θ4 LG.r Q3.r X3.r Y3.r;by_cases e0:b1=false
  ·subst e0;go_wp2;go_ret;exact⟨6,L,rfl,⟨LG.below ρE LG.size,NE.below ρE,Kf⟩,λh=>az h ρa,λ_=>rfl,JI.step0 ρE⟩
  have e0:b1=true:=by simpa using e0
  subst e0;obtain⟨t,ht⟩:=Nq (x.par !=a1.par);obtain⟨f,hf⟩:=Nq (x.lf==a1.lf);go_upto_region 10 with (fail);refine bK (θ6 JI LG NE Q3 X3 Y3) ?_;clear Rr Ss;rintro v4 ⟨JJ,Lv,Oi,Q4,X4,Y4⟩ Rr;replace J1:=(aD Oi KH.out JL.out).1;rcases t with _|_
  rotate_left
  ·exact ηv
  rcases f with _|_
  ·exact ηv
  go_wp2_with fail;refine sf (θ6 JJ Lv Oi Q4 X4 Y4) ?_;clear Rr;rintro v5 ⟨JP,OE,TP,Q5,X5,Y5⟩ Rr;replace J1:=(aD TP KH.out JL.out).1;refine(lb _ x.id x.par x.lf x.r0 x.r1 x.r2 x.l0 x.l1 x.l2 x.u0 x.u1 x.u2 x.pk x.by_ hr.2.1 sx Um.out).mono ?_;rintro e v6 ⟨rfl,kx⟩;clear Rr;obtain⟨⟨Pa,UB,Q6,X6,Y6,JT⟩,Rr⟩:=Mx kx (θ6 OE TP Q5 X5 Y5 JP);replace J1:=(aD UB KH.out JL.out).1;clear kx;rcases sx with _|_
  ·go_wp2_with fail;refine sf (θ6 JT Pa UB Q6 X6 Y6) ?_;clear Rr;rintro v7 ⟨J7,UH,SQ,Q7,X7,Y7⟩ Rr;replace J1:=(aD SQ KH.out JL.out).1;refine(lb _ x.id x.par x.lf x.r0 x.r1 x.r2 x.l0 x.l1 x.l2 x.u0 x.u1 x.u2 x.pk x.by_ hr.2.1 false Um.out).mono ?_;rintro e v8 ⟨rfl,kx⟩;clear Rr;obtain⟨⟨Rt,PS,Q8,X8,Y8,Ka⟩,Rr⟩:=Mx kx (θ6 UH SQ Q7 X7 Y7 J7);replace J1:=(aD PS KH.out JL.out).1;clear kx;go_wp2_with fail;refine sf (θ6 Ka Rt PS Q8 X8 Y8) ?_;clear Rr;rintro v9 ⟨Km,Sk,PU,Q9,X9,Y9⟩ Rr;replace J1:=(aD PU KH.out JL.out).1;refine(jY T M L x.id _ ⟨Sk,PU,Kf⟩ hL).mono ?_;rintro e N0 ⟨u,rfl,h,kx⟩;clear Rr;obtain⟨⟨Ol,MK,Q10,TV,Y10,Kg⟩,Rr⟩:=Mx kx (θ6 Sk PU Q9 X9 Y9 Km);replace J1:=(aD MK KH.out JL.out).1;clear kx;have SO:=h;clear h;have hg:(aM (λc=>decide (c.par=x.id)) L).length<=1000000:=by rw[aM,List.length_mergeSort,px];have:=ZH (λc:CD=>decide (c.par=x.id)) L;omega
   go_wp2_with fail;refine sf (θ7 Kg Ol MK Q10 TV Y10 SO) ?_;clear Rr;rintro LD ⟨KE,MN,KY,Ro,UM,Y11,Sf⟩ Rr;replace J1:=(aD KY KH.out JL.out).1;refine(mm v9 u _ (pS L) 178 #[w] _ Sf hg (enters_of Tryz.func178 ρh rfl) (λy v hv=>Hl T M w L y v ⟨MN.below hv MN.size,KY.below hv,Kf⟩ (Ro.below hv Ro.size))).mono ?_;rintro e Oe ⟨rfl,kx⟩;clear Rr;obtain⟨⟨Mp,Lk,Q12,NR,Y12,Qk,Kl⟩,Rr⟩:=Mx kx (θ7 MN KY Ro UM Y11 Sf KE);replace J1:=(aD Lk KH.out JL.out).1;clear kx;obtain⟨z,hz⟩:=Nq ((aM (λc=>decide (c.par=x.id)) L).any (pS L));rw[hz];clear hz;rcases z with _|_
   rotate_left
   ·go_wp2;go_ret;exact⟨29,L,rfl,⟨Mp.below ρE Mp.size,Lk.below ρE,Kf⟩,λh=>az h ρa,λ_=>rfl,Kl.step0 ρE⟩
   go_upto_region 14 with (fail);refine bK (θ7 Kl Mp Lk Q12 NR Y12 Qk) ?_;clear Rr;rintro PP ⟨Li,Nv,Ld,Zk,Pr,Y13,YY⟩ Rr;replace J1:=(aD Ld KH.out JL.out).1;have q:=ae Nv;have RV:=λd os=>(aD (Ld.grow d os) KH.out JL.out).1;have q:=θ3 (ae Zk) (ae Pr) (ae Y13);refine Ws 7 (gC ?_);refine bB (θ7 Nv Ld Zk Pr Y13 YY Li) ?_;clear Rr;rintro YP ⟨Rq,Nu,Q14,X14,Y14,G14,OY⟩ Rr;replace J1:=(aD Nu KH.out JL.out).1;clear q RV Nv Ld Zk Pr Y13 YY;obtain⟨v15,Kk,NQ,kx,zx⟩:=bv Φ Θ Nu x.id (φ (fd x));have RQ:=OY.trans kx κj;have Pp:=Rq.ko kx (by intro h;omega);go_wp2;go_ret;exact⟨0,fy x L,rfl,⟨Pp.below ρE Pp.size,by rw[mD];exact NQ.below ρE,λc hc=>(iA hc).elim (λe=>e ▸ Xx) (Kf c)⟩,λ_=>⟨rfl,Xx⟩,λh=>az rfl h,RQ.step0 ρE⟩
  ·go_wp2_with fail;refine sf (θ6 JT Pa UB Q6 X6 Y6) ?_;clear Rr;rintro v7 ⟨J7,UH,SQ,Q7,X7,Y7⟩ Rr;replace J1:=(aD SQ KH.out JL.out).1;refine(uB T M L x.par _ ⟨UH,SQ,Kf⟩).mono ?_;rintro e v8 ⟨rfl,kx⟩;clear Rr;obtain⟨⟨Rt,PS,Q8,X8,Y8,Ka⟩,Rr⟩:=Mx kx (θ6 UH SQ Q7 X7 Y7 J7);replace J1:=(aD PS KH.out JL.out).1;clear kx;rw[We.out];rcases sp with _|_
   ·go_wp2;go_ret;exact⟨29,L,rfl,⟨Rt.below ρE Rt.size,PS.below ρE,Kf⟩,λh=>az h ρa,λ_=>rfl,Ka.step0 ρE⟩
   go_wp2_with fail;refine sf (θ6 Ka Rt PS Q8 X8 Y8) ?_;clear Rr;rintro v9 ⟨Km,Sk,PU,Q9,X9,Y9⟩ Rr;replace J1:=(aD PU KH.out JL.out).1;refine(lb _ x.id x.par x.lf x.r0 x.r1 x.r2 x.l0 x.l1 x.l2 x.u0 x.u1 x.u2 x.pk x.by_ hr.2.1 true Um.out).mono ?_;rintro e N0 ⟨rfl,kx⟩;clear Rr;obtain⟨⟨Ol,MK,Q10,TV,Y10,Kg⟩,Rr⟩:=Mx kx (θ6 Sk PU Q9 X9 Y9 Km);replace J1:=(aD MK KH.out JL.out).1;clear kx;go_upto_region 14 with (fail);refine bK (θ6 Kg Ol MK Q10 TV Y10) ?_;clear Rr;rintro LD ⟨KE,MN,KY,Ro,UM,Y11⟩ Rr;replace J1:=(aD KY KH.out JL.out).1;have q:=ae MN;have RV:=λd os=>(aD (KY.grow d os) KH.out JL.out).1;have q:=θ3 (ae Ro) (ae UM) (ae Y11);refine Ws 7 (gC ?_);refine bB (θ6 MN KY Ro UM Y11 KE) ?_;clear Rr;rintro Oe ⟨Mp,Lk,Q12,NR,Y12,Kl⟩ Rr;replace J1:=(aD Lk KH.out JL.out).1;clear q RV MN KY Ro UM Y11;obtain⟨PP,Kk,Ld,kx,zx⟩:=bv Φ Θ Lk x.id (φ (fd x));have Li:=Kl.trans kx κj;have Nv:=Mp.ko kx (by intro h;omega);go_wp2;go_ret;exact⟨0,fy x L,rfl,⟨Nv.below ρE Nv.size,by rw[mD];exact Ld.below ρE,λc hc=>(iA hc).elim (λe=>e ▸ Xx) (Kf c)⟩,λ_=>⟨rfl,Xx⟩,λh=>az rfl h,Li.step0 ρE⟩
end Go.Proofs.YtfdlemkplejdnaaGreat
