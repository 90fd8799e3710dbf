/- WholeLatest, part 14. Conditions: none. -/
import Derived.Test.YtfdlemkplejdnaaGreatA10
namespace Go.Proofs.YtfdlemkplejdnaaGreat
open Go.RowKit Go.Sort
open Value renaming int->ι,pointer->ψ,slice->ζ,tuple->χ,agg->φ,map->μ,bool->β
open IntKind renaming u64->υ,i64->ε,u16->ω
open Ending renaming returned->ϰ
open Go.Proofs.Tryz renaming prog->Ψ,underlying3->Θ,underlying147->Δ,underlying152->Γ,underlying202->Φ,underlying39->Ξ,underlying207->Ω
open Go renaming World->ϖ,Value->ϗ
set_option linter.unusedVariables false
set_option linter.unusedSimpArgs false
set_option maxHeartbeats 8000000
set_option maxRecDepth 100000
theorem iG {x c:CD}:∀{L:List CD},c ∈ fD x L->c=x\/c ∈ L
 | [],h=>.inl (by simpa [fD] using h)
 | a::r,h=>by
  unfold fD at h;split at h
  ·rcases qC.1 h with h|h
   ·exact .inl h
   ·exact .inr (qb _ h)
  ·rcases qC.1 h with h|h
   ·exact .inr (by simp[h])
   ·exact(iG h).imp id (qb _)
theorem Fo (L:List CD):(tl L).length=L.length:=by simp[tl]
theorem sf {x:CD} (hr:(0<=x.r0/\0<=x.r1/\0<=x.r2)/\(0<=x.l0/\0<=x.l1/\0<=x.l2)/\(0<=x.u0/\0<=x.u1/\0<=x.u2)) {lf:Bool} {a b c:Int} (h:wr x.id x.par lf a b c x.pk x.by_=0):x.ok:=by
 have:¬(x.id<1\/65536<x.id\/x.par<0\/65536<x.par\/x.id=x.par):=by intro q;unfold wr at h;rw[qP q] at h;cases h
 exact⟨by omega,by omega,hr⟩
def uS (x:CD)(L:List CD)(xs:List Int):Prop:=wr x.id x.par x.lf (kd x.r0 x.r1 x.r2) (kd x.l0 x.l1 x.l2) (kd x.u0 x.u1 x.u2) x.pk x.by_=0/\(fc L x.id).isSome=false/\L.length≠64/\x.par=0/\xs.length≠16
theorem IM {x a:CD} {L:List CD} {xs:List Int} {t f:Bool} (g:uS x L xs)(K7:∀c ∈ L,c.ok)(ht:(x.par !=0)=t)(ha:dP L x.par=a)(hf:a.lf=f)(q:t=true\/f=true):False:=by
 obtain⟨_,_,_,h0,_⟩:=g;rw[h0] at ht ha;rcases q with rfl|rfl
 ·exact ax ht ρf
 ·subst ha;unfold dP at hf;cases e:fc L 0 with
  | none=>rw[e] at hf;exact ax hf ρf
  | some c=>have h:=K7 c (aM e).1;have h2:=(aM e).2;unfold CD.ok at h;omega
theorem Ae (L:List CD):kV L 0=true:=by unfold kV;cases fc L 0<;>simp
theorem F2 (T M:Nat)(L:List CD)(x:CD)(xs:List Int)(w:ϖ)(H:aF w T M L)(hL:L.length<=1000)(hr:(0<=x.r0/\0<=x.r1/\0<=x.r2)/\(0<=x.l0/\0<=x.l1/\0<=x.l2)/\(0<=x.u0/\0<=x.u1/\0<=x.u2))(hu:dB L x.par xs)(Kq:xs.length<=1000):Calls Ψ 140 #[T,φ (fh x)] w λe w'=>∃n L',e=ϰ (ι ε n)/\aF w' T M L'/\(n=0->L'=fD x L/\x.ok)/\(n≠0->L'=L)/\(uS x L xs->n=0)/\KO (λy=>y=M) w w':=by
 obtain⟨T',M',K7⟩:=H;have zT:=T'.size;have zM:=M'.size;have SM:=aC T' M';obtain⟨a,ha⟩:=Nq (dP L x.par);obtain⟨b,hb⟩:=Nq ((fc L x.par).isSome);obtain⟨a1,Lu⟩:=Nq (dP L x.id);obtain⟨b1,Kr⟩:=Nq ((fc L x.id).isSome);obtain⟨n0,LQ⟩:=Nq (wr x.id x.par x.lf (kd x.r0 x.r1 x.r2) (kd x.l0 x.l1 x.l2) (kd x.u0 x.u1 x.u2) x.pk x.by_);obtain⟨sx,UX⟩:=Nq (dv (kd x.l0 x.l1 x.l2));obtain⟨sp,Uh⟩:=Nq (kV L x.par);obtain⟨nL,hnL⟩:=Nq L.length;obtain⟨nx,Oo⟩:=Nq xs.length;have ha:=ag ha;have hb:=ag hb;have Lu:=ag Lu;have Kr:=ag Kr;have LQ:=ag LQ;have UX:=ag UX;have Uh:=ag Uh;have hnL:=ag hnL;have Oo:=ag Oo;have Rr:=T'.r;have KP:=(aD M' ha.out hb.out).1;have Na:=(aD M' Lu.out Kr.out).1;have Nb:=(λty=>(aT Φ M' ty).trans ρ8);go_in;go_wp2_with fail;refine qi (θ3 (Ks (λy=>y=M) w) T' M') (λv=>ah v w (fh x) 43) ρB ?_;clear Rr;rintro v1 X1 ⟨I',MD,Ox⟩ Rr;replace KP:=(aD Ox ha.out hb.out).1;replace Na:=(aD Ox Lu.out Kr.out).1;replace Nb:=(λty=>(aT Φ Ox ty).trans ρ8);replace Rr:=X1.r;refine(oq x.id x.par x.lf x.r0 x.r1 x.r2 x.l0 x.l1 x.l2 x.u0 x.u1 x.u2 x.pk x.by_ _ hr.1 hr.2.1 hr.2.2 n0 LQ.out).mono ?_;rintro e v2 ⟨rfl,kx⟩;clear Rr;obtain⟨⟨Ng,N5,X2,J'⟩,Rr⟩:=Mx kx (θ4 MD Ox X1 I');replace KP:=(aD N5 ha.out hb.out).1;replace Na:=(aD N5 Lu.out Kr.out).1;replace Nb:=(λty=>(aT Φ N5 ty).trans ρ8);clear kx;by_cases e0:n0≠0
 ·have Ua:(n0 !=0)=true:=by simpa using e0
  go_wp2;go_ret;exact⟨n0,L,rfl,⟨Ng.below ρE Ng.size,N5.below ρE,K7⟩,λh=>ax h e0,λ_=>rfl,λg=>ax (LQ.out.symm.trans g.1) e0,J'.step0 ρE⟩
 have e0:n0=0:=ρa;subst e0;have XX:x.ok:=sf hr LQ.out;go_upto_region 6 with (fail);go_cut [6,7] (λs6 s7 wx=>∃X:Nat,s6=X/\s7=β b1/\v2.heap.size<=X/\KO (λy=>y=M) w wx/\ah wx (T) #[.map (some M)] 204/\aB wx (M) (tl L)/\ah wx w (fh x) 43/\ah wx (X) (fh a1) 43);case first=>
  have l0a:=(aD (N5.drew) Lu.out Kr.out).1;have l0b:=λo=>(aD ((N5.alloc o).drew) Lu.out Kr.out).1;have l0c:=λo=>(aD ((N5.drew).alloc o) Lu.out Kr.out).1;go_region
  all_goals
   go_wp2;go_meet;exact⟨_,rfl,rfl,by simp,J'.step0 ρE,ρB,N5.below ρE,ρB,ρB⟩
 case rest=>
  obtain⟨PY,rfl,rfl,lY,Kk,MO,Oi,X3,Y3⟩:=hcut
  rename ϖ=>v3
  have zw3:=Kk.size;have Ss:=MO.r;have KP:=(aD Oi ha.out hb.out).1;have Na:=(aD Oi Lu.out Kr.out).1;have Nb:=(λty=>(aT Φ Oi ty).trans ρ8);replace Ss:=θ3 MO.r X3.r Y3.r;go_upto_region 7 with (fail);go_cut [8,9] (λs8 s9 wx=>∃X:Nat,s8=X/\s9=β b/\v3.heap.size<=X/\KO (λy=>y=M) w wx/\ah wx (T) #[.map (some M)] 204/\aB wx (M) (tl L)/\ah wx w (fh x) 43/\ah wx (X) (fh a) 43);case first=>
   have l0a:=(aD (Oi.drew) ha.out hb.out).1;have l0b:=λo=>(aD ((Oi.alloc o).drew) ha.out hb.out).1;have l0c:=λo=>(aD ((Oi.drew).alloc o) ha.out hb.out).1;go_region
   all_goals
    go_wp2;go_meet;exact⟨_,rfl,rfl,by simp,Kk.step0 ρE,ρB,Oi.below ρE,ρB,ρB⟩
  case rest=>
   obtain⟨PZ,rfl,rfl,lZ,Km,ME,O8,X4,Z4⟩:=hcut
   rename ϖ=>v4
   have zw4:=Km.size;replace Ss:=ME.r;have KP:=(aD O8 ha.out hb.out).1;have Na:=(aD O8 Lu.out Kr.out).1;have Nb:=(λty=>(aT Φ O8 ty).trans ρ8);replace Ss:=θ3 ME.r X4.r Z4.r;by_cases e0:b1=true
   ·subst e0;go_wp2;go_ret;exact⟨8,L,rfl,⟨ME.below ρE ME.size,O8.below ρE,K7⟩,λh=>ax h ρa,λ_=>rfl,λg=>ax (Kr.out.symm.trans g.2.1) ρf,Km.step0 ρE⟩
   have e0:b1=false:=by simpa using e0
   subst e0;by_cases e1:nL=64
   ·have q:((nL:Int)==64)=true:=by simpa using qG (Nat.cast (R:=Int)) e1
    go_wp2;go_ret;exact⟨5,L,rfl,⟨ME.below ρE ME.size,O8.below ρE,K7⟩,λh=>ax h ρa,λ_=>rfl,λg=>ax (hnL.out.trans e1) g.2.2.1,Km.step0 ρE⟩
   have q1:((nL:Int)==64)=false:=ρF;obtain⟨t,ht⟩:=Nq (x.par !=0);go_upto_region 12 with (fail);refine bR (θ5 Km ME O8 X4 Z4) ?_;clear Rr Ss;rintro v8 ⟨KZ,St,QH,X8,Z8⟩ Rr;replace KP:=(aD QH ha.out hb.out).1;replace Na:=(aD QH Lu.out Kr.out).1;replace Nb:=(λty=>(aT Φ QH ty).trans ρ8);obtain⟨f,hf⟩:=Nq a.lf;rcases t with _|_<;>rcases b with _|_<;>rcases f with _|_
   all_goals try (go_wp2;go_ret;exact⟨23,L,rfl,⟨St.below ρE St.size,QH.below ρE,K7⟩,λh=>ax h ρa,λ_=>rfl,λg=>(IM g K7 ht ha.out hf ρf).elim,KZ.step0 ρE⟩)
   all_goals
    go_wp2_with fail;refine tg (θ5 KZ St QH X8 Z8) ?_;clear Rr;rintro v9 ⟨Ll,Ti,QI,X9,Z9⟩ Rr;replace KP:=(aD QI ha.out hb.out).1;replace Na:=(aD QI Lu.out Kr.out).1;replace Nb:=(λty=>(aT Φ QI ty).trans ρ8);refine(lb _ x.id x.par x.lf x.r0 x.r1 x.r2 x.l0 x.l1 x.l2 x.u0 x.u1 x.u2 x.pk x.by_ hr.2.1 sx UX.out).mono ?_;rintro e Ps ⟨rfl,kx⟩;clear Rr;obtain⟨⟨Pc,ND,Vy,YA,Lc⟩,Rr⟩:=Mx kx (θ5 Ti QI X9 Z9 Ll);replace KP:=(aD ND ha.out hb.out).1;replace Na:=(aD ND Lu.out Kr.out).1;replace Nb:=(λty=>(aT Φ ND ty).trans ρ8);clear kx;rcases sx with _|_
    ·go_wp2_with fail;refine tg (θ5 Lc Pc ND Vy YA) ?_;clear Rr;rintro MN ⟨Ls,NF,LP,Vz,YB⟩ Rr;replace KP:=(aD LP ha.out hb.out).1;replace Na:=(aD LP Lu.out Kr.out).1;replace Nb:=(λty=>(aT Φ LP ty).trans ρ8);refine(yl T M L x.par xs _ ⟨NF,LP,K7⟩ hu Kq).mono ?_;rintro e OY ⟨rfl,kx⟩;clear Rr;obtain⟨⟨Nn,Mn,Oz,Z12,Le⟩,Rr⟩:=Mx kx (θ5 NF LP Vz YB Ls);replace KP:=(aD Mn ha.out hb.out).1;replace Na:=(aD Mn Lu.out Kr.out).1;replace Nb:=(λty=>(aT Φ Mn ty).trans ρ8);clear kx;rw[Oo.out];by_cases e3:nx=16
     ·have q3:((nx:Int)==16)=true:=by simpa using qG (Nat.cast (R:=Int)) e3
      go_wp2;go_ret;exact⟨25,L,rfl,⟨Nn.below ρE Nn.size,Mn.below ρE,K7⟩,λh=>ax h ρa,λ_=>rfl,λg=>ax (Oo.out.trans e3) g.2.2.2.2,Le.step0 ρE⟩
     have q3:((nx:Int)==16)=false:=ρF;go_upto_region 18 with (fail);refine bR (θ5 Le Nn Mn Oz Z12) ?_;clear Rr;rintro QE ⟨Ml,N8,Mg,Ql,Z'⟩ Rr;replace KP:=(aD Mg ha.out hb.out).1;replace Na:=(aD Mg Lu.out Kr.out).1;replace Nb:=(λty=>(aT Φ Mg ty).trans ρ8);have qT':=af N8;have SQ:=λd os=>(aD (Mg.grow d os) ha.out hb.out).1;have qM'1:=λd os=>(aD (Mg.grow d os) Lu.out Kr.out).1;have qM'2:=λd os=>(λty=>(aT Φ (Mg.grow d os) ty).trans ρ8);have qX:=af Ql;have qZ:=af Z';refine Ws 7 (gH ?_);refine bE (θ5 N8 Mg Ql Z' Ml) ?_;clear Rr;rintro Zt ⟨Sr,N7,X14,Z14,PQ⟩ Rr;replace KP:=(aD N7 ha.out hb.out).1;replace Na:=(aD N7 Lu.out Kr.out).1;replace Nb:=(λty=>(aT Φ N7 ty).trans ρ8);clear qT' qX qZ SQ qM'1 qM'2 N8 Mg Ql Z';obtain⟨v15,Ld,Oy,kx,zx⟩:=bv Φ Θ N7 x.id (φ (fh x));have SL:=PQ.trans kx κb;have Qj:=Sr.ko kx (by intro h;omega);go_wp2;go_ret;exact⟨0,fD x L,rfl,⟨Qj.below ρE Qj.size,by rw[mS];exact Oy.below ρE,λc hc=>(iG hc).elim (λe=>e ▸ XX) (K7 c)⟩,λ_=>⟨rfl,XX⟩,λh=>ax rfl h,λ_=>rfl,SL.step0 ρE⟩
    ·go_wp2_with fail;refine tg (θ5 Lc Pc ND Vy YA) ?_;clear Rr;rintro MN ⟨Ls,NF,LP,Vz,YB⟩ Rr;replace KP:=(aD LP ha.out hb.out).1;replace Na:=(aD LP Lu.out Kr.out).1;replace Nb:=(λty=>(aT Φ LP ty).trans ρ8);refine(vd T M L x.par _ ⟨NF,LP,K7⟩).mono ?_;rintro e OY ⟨rfl,kx⟩;clear Rr;obtain⟨⟨Nn,Mn,Oz,Z12,Le⟩,Rr⟩:=Mx kx (θ5 NF LP Vz YB Ls);replace KP:=(aD Mn ha.out hb.out).1;replace Na:=(aD Mn Lu.out Kr.out).1;replace Nb:=(λty=>(aT Φ Mn ty).trans ρ8);clear kx;rw[Uh.out];rcases sp with _|_
     ·go_wp2;go_ret;exact⟨29,L,rfl,⟨Nn.below ρE Nn.size,Mn.below ρE,K7⟩,λh=>ax h ρa,λ_=>rfl,λg=>by have h:=Uh.out;rw[g.2.2.2.1,Ae] at h;exact ax h ρf,Le.step0 ρE⟩
     ·go_wp2_with fail;refine tg (θ5 Le Nn Mn Oz Z12) ?_;clear Rr;rintro QE ⟨Ml,N8,Mg,Ql,Z'⟩ Rr;replace KP:=(aD Mg ha.out hb.out).1;replace Na:=(aD Mg Lu.out Kr.out).1;replace Nb:=(λty=>(aT Φ Mg ty).trans ρ8);refine(yl T M L x.par xs _ ⟨N8,Mg,K7⟩ hu Kq).mono ?_;rintro e Zt ⟨rfl,kx⟩;clear Rr;obtain⟨⟨Sr,N7,X14,Z14,PQ⟩,Rr⟩:=Mx kx (θ5 N8 Mg Ql Z' Ml);replace KP:=(aD N7 ha.out hb.out).1;replace Na:=(aD N7 Lu.out Kr.out).1;replace Nb:=(λty=>(aT Φ N7 ty).trans ρ8);clear kx;rw[Oo.out];by_cases e3:nx=16
      ·have q3:((nx:Int)==16)=true:=by simpa using qG (Nat.cast (R:=Int)) e3
       go_wp2;go_ret;exact⟨25,L,rfl,⟨Sr.below ρE Sr.size,N7.below ρE,K7⟩,λh=>ax h ρa,λ_=>rfl,λg=>ax (Oo.out.trans e3) g.2.2.2.2,PQ.step0 ρE⟩
      have q3:((nx:Int)==16)=false:=ρF;go_upto_region 18 with (fail);refine bR (θ5 PQ Sr N7 X14 Z14) ?_;clear Rr;rintro v15 ⟨SL,Qj,Oy,X15,Z15⟩ Rr;replace KP:=(aD Oy ha.out hb.out).1;replace Na:=(aD Oy Lu.out Kr.out).1;replace Nb:=(λty=>(aT Φ Oy ty).trans ρ8);have qT':=af Qj;have SQ:=λd os=>(aD (Oy.grow d os) ha.out hb.out).1;have qM'1:=λd os=>(aD (Oy.grow d os) Lu.out Kr.out).1;have qM'2:=λd os=>(λty=>(aT Φ (Oy.grow d os) ty).trans ρ8);have qX:=af X15;have qZ:=af Z15;refine Ws 7 (gH ?_);refine bE (θ5 Qj Oy X15 Z15 SL) ?_;clear Rr;rintro v16 ⟨T'16,Xe,X16,Z16,k016⟩ Rr;replace KP:=(aD Xe ha.out hb.out).1;replace Na:=(aD Xe Lu.out Kr.out).1;replace Nb:=(λty=>(aT Φ Xe ty).trans ρ8);clear qT' qX qZ SQ qM'1 qM'2 Qj Oy X15 Z15;obtain⟨v17,Ld,M'17,kx,zx⟩:=bv Φ Θ Xe x.id (φ (fh x));have k017:=k016.trans kx κb;have T'17:=T'16.ko kx (by intro h;omega);go_wp2;go_ret;exact⟨0,fD x L,rfl,⟨T'17.below ρE T'17.size,by rw[mS];exact M'17.below ρE,λc hc=>(iG hc).elim (λe=>e ▸ XX) (K7 c)⟩,λ_=>⟨rfl,XX⟩,λh=>ax rfl h,λ_=>rfl,k017.step0 ρE⟩
def pS (L:List CD)(id:Int):Bool:=dv (kd (dP L id).l0 (dP L id).l1 (dP L id).l2)
theorem Et {L:List CD} (h:∀c ∈ L,c.ok)(id:Int):0<=(dP L id).l0/\0<=(dP L id).l1/\0<=(dP L id).l2:=by
 unfold dP;rcases hc:fc L id with _|c
 ·simp
 ·exact(h c (aM hc).1).2.2.2.1
theorem Iz (T M X:Nat)(L:List CD)(id:Int)(w:ϖ)(H:aF w T M L)(hX:ah w X #[T] 145):Calls Ψ 178 (#[ι ε id]++#[ψ X]) w λe w'=>e=ϰ (β (pS L id))/\Below w w w':=by obtain⟨T',M',K7⟩:=H;have zT:=T'.size;have zM:=M'.size;have SM:=aC T' M';have ok:=Et K7 id;obtain⟨s,hs⟩:=Nq (pS L id);rw[hs];unfold pS at hs;obtain⟨a,ha⟩:=Nq (dP L id);rw[ha] at hs ok;replace hs:=ag hs;have cT:=T'.cell;have fT:=T'.frozen;have rX:=hX.r;have l1:=(aD M' ha rfl).2;go_in;go_wp2_with fail;refine(lb _ a.id a.par a.lf a.r0 a.r1 a.r2 a.l0 a.l1 a.l2 a.u0 a.u1 a.u2 a.pk a.by_ ok s hs.out).mono ?_;rintro e v ⟨rfl,hb⟩;go_wp2;go_ret;exact⟨rfl,hb⟩
theorem IE (T M:Nat)(L:List CD)(x:CD)(w:ϖ)(H:aF w T M L)(hL:L.length<=1000)(hr:(0<=x.r0/\0<=x.r1/\0<=x.r2)/\(0<=x.l0/\0<=x.l1/\0<=x.l2)/\(0<=x.u0/\0<=x.u1/\0<=x.u2)):Calls Ψ 141 #[T,φ (fh x)] w λe w'=>∃n L',e=ϰ (ι ε n)/\aF w' T M L'/\(n=0->L'=fD x L/\x.ok)/\(n≠0->L'=L)/\KO (λy=>y=M) w w':=by
 obtain⟨T',M',K7⟩:=H;have zT:=T'.size;have zM:=M'.size;have SM:=aC T' M';obtain⟨a1,Lu⟩:=Nq (dP L x.id);obtain⟨b1,Kr⟩:=Nq ((fc L x.id).isSome);obtain⟨n0,LQ⟩:=Nq (wr x.id x.par x.lf (kd x.r0 x.r1 x.r2) (kd x.l0 x.l1 x.l2) (kd x.u0 x.u1 x.u2) x.pk x.by_);obtain⟨sx,UX⟩:=Nq (dv (kd x.l0 x.l1 x.l2));obtain⟨sp,Uh⟩:=Nq (kV L x.par);change Hid _ at Lu Kr LQ UX Uh;have Rr:=T'.r;have KP:=(aD M' Lu.out Kr.out).1;go_in;go_wp2_with fail;refine qi (θ3 (Ks (λy=>y=M) w) T' M') (λv=>ah v w #[T] 145/\ah v (w+1) (fh x) 43) ⟨ρB,ρB⟩ ?_;clear Rr;rintro v1 ⟨Q1,X1⟩ ⟨I',MD,Ox⟩ Rr;replace KP:=(aD Ox Lu.out Kr.out).1;replace Rr:=θ2 Q1.r X1.r;refine(oq x.id x.par x.lf x.r0 x.r1 x.r2 x.l0 x.l1 x.l2 x.u0 x.u1 x.u2 x.pk x.by_ _ hr.1 hr.2.1 hr.2.2 n0 LQ.out).mono ?_;rintro e v2 ⟨rfl,kx⟩;clear Rr;obtain⟨⟨Ng,N5,Q2,X2,J'⟩,Rr⟩:=Mx kx (θ5 MD Ox Q1 X1 I');replace KP:=(aD N5 Lu.out Kr.out).1;clear kx;by_cases e0:n0≠0
 ·have Ua:(n0 !=0)=true:=by simpa using e0
  go_wp2;go_ret;exact⟨n0,L,rfl,⟨Ng.below ρE Ng.size,N5.below ρE,K7⟩,λh=>ax h e0,λ_=>rfl,J'.step0 ρE⟩
 have e0:n0=0:=ρa;subst e0;have XX:x.ok:=sf hr LQ.out;go_upto_region 6 with (fail);go_cut [6,7] (λs6 s7 wx=>∃X:Nat,s6=X/\s7=β b1/\v2.heap.size<=X/\KO (λy=>y=M) w wx/\ah wx (T) #[.map (some M)] 204/\aB wx (M) (tl L)/\ah wx w #[T] 145/\ah wx (w+1) (fh x) 43/\ah wx (X) (fh a1) 43);case first=>
  have l0a:=(aD (N5.drew) Lu.out Kr.out).1;have l0b:=λo=>(aD ((N5.alloc o).drew) Lu.out Kr.out).1;have l0c:=λo=>(aD ((N5.drew).alloc o) Lu.out Kr.out).1;go_region
  all_goals
   go_wp2;go_meet;exact⟨_,rfl,rfl,by simp,J'.step0 ρE,ρB,N5.below ρE,ρB,ρB,ρB⟩
 case rest=>
  obtain⟨PY,rfl,rfl,lY,Kk,MO,Oi,Q3,X3,Y3⟩:=hcut
  rename ϖ=>v3
  have zw3:=Kk.size;have Ss:=MO.r;have KP:=(aD Oi Lu.out Kr.out).1;replace Ss:=θ4 MO.r Q3.r X3.r Y3.r;by_cases e0:b1=false
  ·subst e0;go_wp2;go_ret;exact⟨6,L,rfl,⟨MO.below ρE MO.size,Oi.below ρE,K7⟩,λh=>ax h ρa,λ_=>rfl,Kk.step0 ρE⟩
  have e0:b1=true:=by simpa using e0
  subst e0;obtain⟨t,ht⟩:=Nq (x.par !=a1.par);obtain⟨f,hf⟩:=Nq (x.lf==a1.lf);go_upto_region 10 with (fail);refine bR (θ6 Kk MO Oi Q3 X3 Y3) ?_;clear Rr Ss;rintro v4 ⟨Km,ME,O8,Q4,X4,Y4⟩ Rr;replace KP:=(aD O8 Lu.out Kr.out).1;rcases t with _|_
  rotate_left
  ·exact ηy
  rcases f with _|_
  ·exact ηy
  go_wp2_with fail;refine tg (θ6 Km ME O8 Q4 X4 Y4) ?_;clear Rr;rintro v5 ⟨Kw,Px,UD,Q5,X5,Y5⟩ Rr;replace KP:=(aD UD Lu.out Kr.out).1;refine(lb _ x.id x.par x.lf x.r0 x.r1 x.r2 x.l0 x.l1 x.l2 x.u0 x.u1 x.u2 x.pk x.by_ hr.2.1 sx UX.out).mono ?_;rintro e v6 ⟨rfl,kx⟩;clear Rr;obtain⟨⟨PW,Vo,Q6,X6,Y6,KH⟩,Rr⟩:=Mx kx (θ6 Px UD Q5 X5 Y5 Kw);replace KP:=(aD Vo Lu.out Kr.out).1;clear kx;rcases sx with _|_
  ·go_wp2_with fail;refine tg (θ6 KH PW Vo Q6 X6 Y6) ?_;clear Rr;rintro v7 ⟨KV,Vt,TI,Q7,X7,Y7⟩ Rr;replace KP:=(aD TI Lu.out Kr.out).1;refine(lb _ x.id x.par x.lf x.r0 x.r1 x.r2 x.l0 x.l1 x.l2 x.u0 x.u1 x.u2 x.pk x.by_ hr.2.1 false UX.out).mono ?_;rintro e v8 ⟨rfl,kx⟩;clear Rr;obtain⟨⟨St,QH,Q8,X8,Y8,KZ⟩,Rr⟩:=Mx kx (θ6 Vt TI Q7 X7 Y7 KV);replace KP:=(aD QH Lu.out Kr.out).1;clear kx;go_wp2_with fail;refine tg (θ6 KZ St QH Q8 X8 Y8) ?_;clear Rr;rintro v9 ⟨Ll,Ti,QI,Q9,X9,Y9⟩ Rr;replace KP:=(aD QI Lu.out Kr.out).1;refine(kt T M L x.id _ ⟨Ti,QI,K7⟩ hL).mono ?_;rintro e Ps ⟨u,rfl,h,kx⟩;clear Rr;obtain⟨⟨Pc,ND,Q10,Vy,Y10,Lc⟩,Rr⟩:=Mx kx (θ6 Ti QI Q9 X9 Y9 Ll);replace KP:=(aD ND Lu.out Kr.out).1;clear kx;have Vl:=h;clear h;have hg:(aN (λc=>decide (c.par=x.id)) L).length<=1000000:=by rw[aN,List.length_mergeSort,nl];have:=qH (λc:CD=>decide (c.par=x.id)) L;omega
   go_wp2_with fail;refine tg (θ7 Lc Pc ND Q10 Vy Y10 Vl) ?_;clear Rr;rintro MN ⟨Ls,NF,LP,Sp,Vz,Y11,Tc⟩ Rr;replace KP:=(aD LP Lu.out Kr.out).1;refine(mH v9 u _ (pS L) 178 #[w] _ Tc hg (enters_of Tryz.func178 ρi rfl) (λy v hv=>Iz T M w L y v ⟨NF.below hv NF.size,LP.below hv,K7⟩ (Sp.below hv Sp.size))).mono ?_;rintro e OY ⟨rfl,kx⟩;clear Rr;obtain⟨⟨Nn,Mn,Q12,Oz,Y12,Re,Le⟩,Rr⟩:=Mx kx (θ7 NF LP Sp Vz Y11 Tc Ls);replace KP:=(aD Mn Lu.out Kr.out).1;clear kx;obtain⟨z,hz⟩:=Nq ((aN (λc=>decide (c.par=x.id)) L).any (pS L));rw[hz];clear hz;rcases z with _|_
   rotate_left
   ·go_wp2;go_ret;exact⟨29,L,rfl,⟨Nn.below ρE Nn.size,Mn.below ρE,K7⟩,λh=>ax h ρa,λ_=>rfl,Le.step0 ρE⟩
   go_upto_region 14 with (fail);refine bR (θ7 Le Nn Mn Q12 Oz Y12 Re) ?_;clear Rr;rintro QE ⟨Ml,N8,Mg,ZP,Ql,Y13,ZF⟩ Rr;replace KP:=(aD Mg Lu.out Kr.out).1;have q:=af N8;have SQ:=λd os=>(aD (Mg.grow d os) Lu.out Kr.out).1;have q:=θ3 (af ZP) (af Ql) (af Y13);refine Ws 7 (gH ?_);refine bE (θ7 N8 Mg ZP Ql Y13 ZF Ml) ?_;clear Rr;rintro Zt ⟨Sr,N7,Q14,X14,Y14,G14,PQ⟩ Rr;replace KP:=(aD N7 Lu.out Kr.out).1;clear q SQ N8 Mg ZP Ql Y13 ZF;obtain⟨v15,Ld,Oy,kx,zx⟩:=bv Φ Θ N7 x.id (φ (fh x));have SL:=PQ.trans kx κb;have Qj:=Sr.ko kx (by intro h;omega);go_wp2;go_ret;exact⟨0,fD x L,rfl,⟨Qj.below ρE Qj.size,by rw[mS];exact Oy.below ρE,λc hc=>(iG hc).elim (λe=>e ▸ XX) (K7 c)⟩,λ_=>⟨rfl,XX⟩,λh=>ax rfl h,SL.step0 ρE⟩
  ·go_wp2_with fail;refine tg (θ6 KH PW Vo Q6 X6 Y6) ?_;clear Rr;rintro v7 ⟨KV,Vt,TI,Q7,X7,Y7⟩ Rr;replace KP:=(aD TI Lu.out Kr.out).1;refine(vd T M L x.par _ ⟨Vt,TI,K7⟩).mono ?_;rintro e v8 ⟨rfl,kx⟩;clear Rr;obtain⟨⟨St,QH,Q8,X8,Y8,KZ⟩,Rr⟩:=Mx kx (θ6 Vt TI Q7 X7 Y7 KV);replace KP:=(aD QH Lu.out Kr.out).1;clear kx;rw[Uh.out];rcases sp with _|_
   ·go_wp2;go_ret;exact⟨29,L,rfl,⟨St.below ρE St.size,QH.below ρE,K7⟩,λh=>ax h ρa,λ_=>rfl,KZ.step0 ρE⟩
   go_wp2_with fail;refine tg (θ6 KZ St QH Q8 X8 Y8) ?_;clear Rr;rintro v9 ⟨Ll,Ti,QI,Q9,X9,Y9⟩ Rr;replace KP:=(aD QI Lu.out Kr.out).1;refine(lb _ x.id x.par x.lf x.r0 x.r1 x.r2 x.l0 x.l1 x.l2 x.u0 x.u1 x.u2 x.pk x.by_ hr.2.1 true UX.out).mono ?_;rintro e Ps ⟨rfl,kx⟩;clear Rr;obtain⟨⟨Pc,ND,Q10,Vy,Y10,Lc⟩,Rr⟩:=Mx kx (θ6 Ti QI Q9 X9 Y9 Ll);replace KP:=(aD ND Lu.out Kr.out).1;clear kx;go_upto_region 14 with (fail);refine bR (θ6 Lc Pc ND Q10 Vy Y10) ?_;clear Rr;rintro MN ⟨Ls,NF,LP,Sp,Vz,Y11⟩ Rr;replace KP:=(aD LP Lu.out Kr.out).1;have q:=af NF;have SQ:=λd os=>(aD (LP.grow d os) Lu.out Kr.out).1;have q:=θ3 (af Sp) (af Vz) (af Y11);refine Ws 7 (gH ?_);refine bE (θ6 NF LP Sp Vz Y11 Ls) ?_;clear Rr;rintro OY ⟨Nn,Mn,Q12,Oz,Y12,Le⟩ Rr;replace KP:=(aD Mn Lu.out Kr.out).1;clear q SQ NF LP Sp Vz Y11;obtain⟨QE,Ld,Mg,kx,zx⟩:=bv Φ Θ Mn x.id (φ (fh x));have Ml:=Le.trans kx κb;have N8:=Nn.ko kx (by intro h;omega);go_wp2;go_ret;exact⟨0,fD x L,rfl,⟨N8.below ρE N8.size,by rw[mS];exact Mg.below ρE,λc hc=>(iG hc).elim (λe=>e ▸ XX) (K7 c)⟩,λ_=>⟨rfl,XX⟩,λh=>ax rfl h,Ml.step0 ρE⟩
end Go.Proofs.YtfdlemkplejdnaaGreat
