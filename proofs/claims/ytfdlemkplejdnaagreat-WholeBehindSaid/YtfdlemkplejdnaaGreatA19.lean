/- WholeBehind, part 19. Conditions: none. -/
import Derived.Test.YtfdlemkplejdnaaGreatA13
namespace Go.Proofs.YtfdlemkplejdnaaGreat
open Go.RowKit Go.Sort
open Value renaming int->ι,pointer->ψ,slice->ζ,tuple->χ,agg->φ,map->μ,bool->β
open IntKind renaming u64->υ,i64->ε,u16->ω
open Ending renaming returned->ϰ
open Go.Proofs.Tryz renaming prog->Ψ,underlying3->Θ,underlying147->Δ,underlying152->Γ,underlying202->Φ,underlying39->Ξ,underlying207->Ω
open Go renaming World->ϖ,Value->ϗ
set_option linter.unusedVariables false
set_option linter.unusedSimpArgs false
set_option maxHeartbeats 8000000
set_option maxRecDepth 100000
theorem ip {x c:CD}:∀{L:List CD},c ∈ fz x L->c=x\/c ∈ L
 | [],h=>.inl (by simpa [fz] using h)
 | a::r,h=>by
  unfold fz at h;split at h
  ·rcases ZC.1 h with h|h
   ·exact .inl h
   ·exact .inr (rt _ h)
  ·rcases ZC.1 h with h|h
   ·exact .inr (by simp[h])
   ·exact(ip h).imp id (rt _)
theorem Ds (L:List CD):(tl L).length=L.length:=by simp[tl]
theorem qn {x:CD} (hr:(0<=x.r0/\0<=x.r1/\0<=x.r2)/\(0<=x.l0/\0<=x.l1/\0<=x.l2)/\(0<=x.u0/\0<=x.u1/\0<=x.u2)) {lf:Bool} {a b c:Int} (h:wr x.id x.par lf a b c x.pk x.by_=0):x.ok:=by
 have:¬(x.id<1\/65536<x.id\/x.par<0\/65536<x.par\/x.id=x.par):=by intro q;unfold wr at h;rw[ZP q] at h;cases h
 exact⟨by omega,by omega,hr⟩
def tF (x:CD)(L:List CD)(xs:List Int):Prop:=wr x.id x.par x.lf (kd x.r0 x.r1 x.r2) (kd x.l0 x.l1 x.l2) (kd x.u0 x.u1 x.u2) x.pk x.by_=0/\(fc L x.id).isSome=false/\L.length≠64/\x.par=0/\xs.length≠16
theorem Gg {x a:CD} {L:List CD} {xs:List Int} {t f:Bool} (g:tF x L xs)(Jo:∀c ∈ L,c.ok)(ht:(x.par !=0)=t)(ha:di L x.par=a)(hf:a.lf=f)(q:t=true\/f=true):False:=by
 obtain⟨_,_,_,h0,_⟩:=g;rw[h0] at ht ha;rcases q with rfl|rfl
 ·exact ax ht ρf
 ·subst ha;unfold di at hf;cases e:fc L 0 with
  | none=>rw[e] at hf;exact ax hf ρf
  | some c=>have h:=Jo c (aM e).1;have h2:=(aM e).2;unfold CD.ok at h;omega
theorem xP (L:List CD):kh L 0=true:=by unfold kh;cases fc L 0<;>simp
theorem Ei (T M:Nat)(L:List CD)(x:CD)(xs:List Int)(w:ϖ)(H:aF w T M L)(hL:L.length<=1000)(hr:(0<=x.r0/\0<=x.r1/\0<=x.r2)/\(0<=x.l0/\0<=x.l1/\0<=x.l2)/\(0<=x.u0/\0<=x.u1/\0<=x.u2))(hu:bQ L x.par xs)(IF:xs.length<=1000):Calls Ψ 140 #[T,φ (fx x)] w λe w'=>∃n L',e=ϰ (ι ε n)/\aF w' T M L'/\(n=0->L'=fz x L/\x.ok)/\(n≠0->L'=L)/\(tF x L xs->n=0)/\KO (λy=>y=M) w w':=by
 obtain⟨T',M',Jo⟩:=H;have zT:=T'.size;have zM:=M'.size;have Rb:=aB T' M';obtain⟨a,ha⟩:=Nq (di L x.par);obtain⟨b,hb⟩:=Nq ((fc L x.par).isSome);obtain⟨a1,JI⟩:=Nq (di L x.id);obtain⟨b1,IG⟩:=Nq ((fc L x.id).isSome);obtain⟨n0,Kv⟩:=Nq (wr x.id x.par x.lf (kd x.r0 x.r1 x.r2) (kd x.l0 x.l1 x.l2) (kd x.u0 x.u1 x.u2) x.pk x.by_);obtain⟨sx,Tv⟩:=Nq (cW (kd x.l0 x.l1 x.l2));obtain⟨sp,Vo⟩:=Nq (kh L x.par);obtain⟨nL,hnL⟩:=Nq L.length;obtain⟨nx,MO⟩:=Nq xs.length;have ha:=ag ha;have hb:=ag hb;have JI:=ag JI;have IG:=ag IG;have Kv:=ag Kv;have Tv:=ag Tv;have Vo:=ag Vo;have hnL:=ag hnL;have MO:=ag MO;have Rr:=T'.r;have I9:=(aC M' ha.out hb.out).1;have KR:=(aC M' JI.out IG.out).1;have KS:=(λty=>(aS Φ M' ty).trans ρ9);go_in;go_wp2_with fail;refine mL (θ3 (Ks (λy=>y=M) w) T' M') (λv=>ah v w (fx x) 43) ρB ?_;clear Rr;rintro v1 X1 ⟨F',Kr,MU⟩ Rr;replace I9:=(aC MU ha.out hb.out).1;replace KR:=(aC MU JI.out IG.out).1;replace KS:=(λty=>(aS Φ MU ty).trans ρ9);replace Rr:=X1.r;refine(nj x.id x.par x.lf x.r0 x.r1 x.r2 x.l0 x.l1 x.l2 x.u0 x.u1 x.u2 x.pk x.by_ _ hr.1 hr.2.1 hr.2.2 n0 Kv.out).mono ?_;rintro e v2 ⟨rfl,kx⟩;clear Rr;obtain⟨⟨KW,Ml,X2,Iz⟩,Rr⟩:=Mx kx (θ4 Kr MU X1 F');replace I9:=(aC Ml ha.out hb.out).1;replace KR:=(aC Ml JI.out IG.out).1;replace KS:=(λty=>(aS Φ Ml ty).trans ρ9);clear kx;by_cases e0:n0≠0
 ·have OH:(n0 !=0)=true:=by simpa using e0
  go_wp2;go_ret;exact⟨n0,L,rfl,⟨KW.below ρE KW.size,Ml.below ρE,Jo⟩,λh=>ax h e0,λ_=>rfl,λg=>ax (Kv.out.symm.trans g.1) e0,Iz.step0 ρE⟩
 have e0:n0=0:=ρa;subst e0;have WK:x.ok:=qn hr Kv.out;go_upto_region 6 with (fail);go_cut [6,7] (λs6 s7 wx=>∃X:Nat,s6=X/\s7=β b1/\v2.heap.size<=X/\KO (λy=>y=M) w wx/\ah wx (T) #[.map (some M)] 204/\aA wx (M) (tl L)/\ah wx w (fx x) 43/\ah wx (X) (fx a1) 43);case first=>
  have l0a:=(aC (Ml.drew) JI.out IG.out).1;have l0b:=λo=>(aC ((Ml.alloc o).drew) JI.out IG.out).1;have l0c:=λo=>(aC ((Ml.drew).alloc o) JI.out IG.out).1;go_region
  all_goals
   go_wp2;go_meet;exact⟨_,rfl,rfl,by simp,Iz.step0 ρE,ρB,Ml.below ρE,ρB,ρB⟩
 case rest=>
  obtain⟨PY,rfl,rfl,lY,ID,KA,MJ,X3,Y3⟩:=hcut
  rename ϖ=>v3
  have zw3:=ID.size;have Ss:=KA.r;have I9:=(aC MJ ha.out hb.out).1;have KR:=(aC MJ JI.out IG.out).1;have KS:=(λty=>(aS Φ MJ ty).trans ρ9);replace Ss:=θ3 KA.r X3.r Y3.r;go_upto_region 7 with (fail);go_cut [8,9] (λs8 s9 wx=>∃X:Nat,s8=X/\s9=β b/\v3.heap.size<=X/\KO (λy=>y=M) w wx/\ah wx (T) #[.map (some M)] 204/\aA wx (M) (tl L)/\ah wx w (fx x) 43/\ah wx (X) (fx a) 43);case first=>
   have l0a:=(aC (MJ.drew) ha.out hb.out).1;have l0b:=λo=>(aC ((MJ.alloc o).drew) ha.out hb.out).1;have l0c:=λo=>(aC ((MJ.drew).alloc o) ha.out hb.out).1;go_region
   all_goals
    go_wp2;go_meet;exact⟨_,rfl,rfl,by simp,ID.step0 ρE,ρB,MJ.below ρE,ρB,ρB⟩
  case rest=>
   obtain⟨PZ,rfl,rfl,lZ,IC,Kt,Nw,X4,Z4⟩:=hcut
   rename ϖ=>v4
   have zw4:=IC.size;replace Ss:=Kt.r;have I9:=(aC Nw ha.out hb.out).1;have KR:=(aC Nw JI.out IG.out).1;have KS:=(λty=>(aS Φ Nw ty).trans ρ9);replace Ss:=θ3 Kt.r X4.r Z4.r;by_cases e0:b1=true
   ·subst e0;go_wp2;go_ret;exact⟨8,L,rfl,⟨Kt.below ρE Kt.size,Nw.below ρE,Jo⟩,λh=>ax h ρa,λ_=>rfl,λg=>ax (IG.out.symm.trans g.2.1) ρf,IC.step0 ρE⟩
   have e0:b1=false:=by simpa using e0
   subst e0;by_cases e1:nL=64
   ·have q:((nL:Int)==64)=true:=by simpa using ZG (Nat.cast (R:=Int)) e1
    go_wp2;go_ret;exact⟨5,L,rfl,⟨Kt.below ρE Kt.size,Nw.below ρE,Jo⟩,λh=>ax h ρa,λ_=>rfl,λg=>ax (hnL.out.trans e1) g.2.2.1,IC.step0 ρE⟩
   have q1:((nL:Int)==64)=false:=ρJ;obtain⟨t,ht⟩:=Nq (x.par !=0);go_upto_region 12 with (fail);refine bS (θ5 IC Kt Nw X4 Z4) ?_;clear Rr Ss;rintro v8 ⟨Je,QC,OW,X8,Z8⟩ Rr;replace I9:=(aC OW ha.out hb.out).1;replace KR:=(aC OW JI.out IG.out).1;replace KS:=(λty=>(aS Φ OW ty).trans ρ9);obtain⟨f,hf⟩:=Nq a.lf;rcases t with _|_<;>rcases b with _|_<;>rcases f with _|_
   all_goals try (go_wp2;go_ret;exact⟨23,L,rfl,⟨QC.below ρE QC.size,OW.below ρE,Jo⟩,λh=>ax h ρa,λ_=>rfl,λg=>(Gg g Jo ht ha.out hf ρf).elim,Je.step0 ρE⟩)
   all_goals
    go_wp2_with fail;refine kL (θ5 Je QC OW X8 Z8) ?_;clear Rr;rintro v9 ⟨Jl,Ry,OY,X9,Z9⟩ Rr;replace I9:=(aC OY ha.out hb.out).1;replace KR:=(aC OY JI.out IG.out).1;replace KS:=(λty=>(aS Φ OY ty).trans ρ9);refine(lb _ x.id x.par x.lf x.r0 x.r1 x.r2 x.l0 x.l1 x.l2 x.u0 x.u1 x.u2 x.pk x.by_ hr.2.1 sx Tv.out).mono ?_;rintro e Lj ⟨rfl,kx⟩;clear Rr;obtain⟨⟨Ny,Ll,QG,Xx,I7⟩,Rr⟩:=Mx kx (θ5 Ry OY X9 Z9 Jl);replace I9:=(aC Ll ha.out hb.out).1;replace KR:=(aC Ll JI.out IG.out).1;replace KS:=(λty=>(aS Φ Ll ty).trans ρ9);clear kx;rcases sx with _|_
    ·go_wp2_with fail;refine kL (θ5 I7 Ny Ll QG Xx) ?_;clear Rr;rintro JR ⟨Jn,Lo,JV,Th,Xy⟩ Rr;replace I9:=(aC JV ha.out hb.out).1;replace KR:=(aC JV JI.out IG.out).1;replace KS:=(λty=>(aS Φ JV ty).trans ρ9);refine(wK T M L x.par xs _ ⟨Lo,JV,Jo⟩ hu IF).mono ?_;rintro e Mj ⟨rfl,kx⟩;clear Rr;obtain⟨⟨Lc,Kc,MW,Z12,Jk⟩,Rr⟩:=Mx kx (θ5 Lo JV Th Xy Jn);replace I9:=(aC Kc ha.out hb.out).1;replace KR:=(aC Kc JI.out IG.out).1;replace KS:=(λty=>(aS Φ Kc ty).trans ρ9);clear kx;rw[MO.out];by_cases e3:nx=16
     ·have q3:((nx:Int)==16)=true:=by simpa using ZG (Nat.cast (R:=Int)) e3
      go_wp2;go_ret;exact⟨25,L,rfl,⟨Lc.below ρE Lc.size,Kc.below ρE,Jo⟩,λh=>ax h ρa,λ_=>rfl,λg=>ax (MO.out.trans e3) g.2.2.2.2,Jk.step0 ρE⟩
     have q3:((nx:Int)==16)=false:=ρJ;go_upto_region 18 with (fail);refine bS (θ5 Jk Lc Kc MW Z12) ?_;clear Rr;rintro NO ⟨JM,Ms,J3,OA,Zp⟩ Rr;replace I9:=(aC J3 ha.out hb.out).1;replace KR:=(aC J3 JI.out IG.out).1;replace KS:=(λty=>(aS Φ J3 ty).trans ρ9);have qT':=af Ms;have Rg:=λd os=>(aC (J3.grow d os) ha.out hb.out).1;have qM'1:=λd os=>(aC (J3.grow d os) JI.out IG.out).1;have qM'2:=λd os=>(λty=>(aS Φ (J3.grow d os) ty).trans ρ9);have qX:=af OA;have qZ:=af Zp;refine Ws 7 (gw ?_);refine bF (θ5 Ms J3 OA Zp JM) ?_;clear Rr;rintro RW ⟨QB,Mq,X14,Z14,Mh⟩ Rr;replace I9:=(aC Mq ha.out hb.out).1;replace KR:=(aC Mq JI.out IG.out).1;replace KS:=(λty=>(aS Φ Mq ty).trans ρ9);clear qT' qX qZ Rg qM'1 qM'2 Ms J3 OA Zp;obtain⟨v15,Js,MV,kx,zx⟩:=bz Φ Θ Mq x.id (φ (fx x));have OR:=Mh.trans kx κl;have Ox:=QB.ko kx (by intro h;omega);go_wp2;go_ret;exact⟨0,fz x L,rfl,⟨Ox.below ρE Ox.size,by rw[lW];exact MV.below ρE,λc hc=>(ip hc).elim (λe=>e ▸ WK) (Jo c)⟩,λ_=>⟨rfl,WK⟩,λh=>ax rfl h,λ_=>rfl,OR.step0 ρE⟩
    ·go_wp2_with fail;refine kL (θ5 I7 Ny Ll QG Xx) ?_;clear Rr;rintro JR ⟨Jn,Lo,JV,Th,Xy⟩ Rr;replace I9:=(aC JV ha.out hb.out).1;replace KR:=(aC JV JI.out IG.out).1;replace KS:=(λty=>(aS Φ JV ty).trans ρ9);refine(tQ T M L x.par _ ⟨Lo,JV,Jo⟩).mono ?_;rintro e Mj ⟨rfl,kx⟩;clear Rr;obtain⟨⟨Lc,Kc,MW,Z12,Jk⟩,Rr⟩:=Mx kx (θ5 Lo JV Th Xy Jn);replace I9:=(aC Kc ha.out hb.out).1;replace KR:=(aC Kc JI.out IG.out).1;replace KS:=(λty=>(aS Φ Kc ty).trans ρ9);clear kx;rw[Vo.out];rcases sp with _|_
     ·go_wp2;go_ret;exact⟨29,L,rfl,⟨Lc.below ρE Lc.size,Kc.below ρE,Jo⟩,λh=>ax h ρa,λ_=>rfl,λg=>by have h:=Vo.out;rw[g.2.2.2.1,xP] at h;exact ax h ρf,Jk.step0 ρE⟩
     ·go_wp2_with fail;refine kL (θ5 Jk Lc Kc MW Z12) ?_;clear Rr;rintro NO ⟨JM,Ms,J3,OA,Zp⟩ Rr;replace I9:=(aC J3 ha.out hb.out).1;replace KR:=(aC J3 JI.out IG.out).1;replace KS:=(λty=>(aS Φ J3 ty).trans ρ9);refine(wK T M L x.par xs _ ⟨Ms,J3,Jo⟩ hu IF).mono ?_;rintro e RW ⟨rfl,kx⟩;clear Rr;obtain⟨⟨QB,Mq,X14,Z14,Mh⟩,Rr⟩:=Mx kx (θ5 Ms J3 OA Zp JM);replace I9:=(aC Mq ha.out hb.out).1;replace KR:=(aC Mq JI.out IG.out).1;replace KS:=(λty=>(aS Φ Mq ty).trans ρ9);clear kx;rw[MO.out];by_cases e3:nx=16
      ·have q3:((nx:Int)==16)=true:=by simpa using ZG (Nat.cast (R:=Int)) e3
       go_wp2;go_ret;exact⟨25,L,rfl,⟨QB.below ρE QB.size,Mq.below ρE,Jo⟩,λh=>ax h ρa,λ_=>rfl,λg=>ax (MO.out.trans e3) g.2.2.2.2,Mh.step0 ρE⟩
      have q3:((nx:Int)==16)=false:=ρJ;go_upto_region 18 with (fail);refine bS (θ5 Mh QB Mq X14 Z14) ?_;clear Rr;rintro v15 ⟨OR,Ox,MV,X15,Z15⟩ Rr;replace I9:=(aC MV ha.out hb.out).1;replace KR:=(aC MV JI.out IG.out).1;replace KS:=(λty=>(aS Φ MV ty).trans ρ9);have qT':=af Ox;have Rg:=λd os=>(aC (MV.grow d os) ha.out hb.out).1;have qM'1:=λd os=>(aC (MV.grow d os) JI.out IG.out).1;have qM'2:=λd os=>(λty=>(aS Φ (MV.grow d os) ty).trans ρ9);have qX:=af X15;have qZ:=af Z15;refine Ws 7 (gw ?_);refine bF (θ5 Ox MV X15 Z15 OR) ?_;clear Rr;rintro v16 ⟨T'16,VI,X16,Z16,Uw⟩ Rr;replace I9:=(aC VI ha.out hb.out).1;replace KR:=(aC VI JI.out IG.out).1;replace KS:=(λty=>(aS Φ VI ty).trans ρ9);clear qT' qX qZ Rg qM'1 qM'2 Ox MV X15 Z15;obtain⟨v17,Js,M'17,kx,zx⟩:=bz Φ Θ VI x.id (φ (fx x));have Ux:=Uw.trans kx κl;have T'17:=T'16.ko kx (by intro h;omega);go_wp2;go_ret;exact⟨0,fz x L,rfl,⟨T'17.below ρE T'17.size,by rw[lW];exact M'17.below ρE,λc hc=>(ip hc).elim (λe=>e ▸ WK) (Jo c)⟩,λ_=>⟨rfl,WK⟩,λh=>ax rfl h,λ_=>rfl,Ux.step0 ρE⟩
def pS (L:List CD)(id:Int):Bool:=cW (kd (di L id).l0 (di L id).l1 (di L id).l2)
theorem CF {L:List CD} (h:∀c ∈ L,c.ok)(id:Int):0<=(di L id).l0/\0<=(di L id).l1/\0<=(di L id).l2:=by
 unfold di;rcases hc:fc L id with _|c
 ·simp
 ·exact(h c (aM hc).1).2.2.2.1
theorem F2 (T M X:Nat)(L:List CD)(id:Int)(w:ϖ)(H:aF w T M L)(hX:ah w X #[T] 145):Calls Ψ 178 (#[ι ε id]++#[ψ X]) w λe w'=>e=ϰ (β (pS L id))/\Below w w w':=by obtain⟨T',M',Jo⟩:=H;have zT:=T'.size;have zM:=M'.size;have Rb:=aB T' M';have ok:=CF Jo id;obtain⟨s,hs⟩:=Nq (pS L id);rw[hs];unfold pS at hs;obtain⟨a,ha⟩:=Nq (di L id);rw[ha] at hs ok;replace hs:=ag hs;have cT:=T'.cell;have fT:=T'.frozen;have rX:=hX.r;have l1:=(aC M' ha rfl).2;go_in;go_wp2_with fail;refine(lb _ a.id a.par a.lf a.r0 a.r1 a.r2 a.l0 a.l1 a.l2 a.u0 a.u1 a.u2 a.pk a.by_ ok s hs.out).mono ?_;rintro e v ⟨rfl,hb⟩;go_wp2;go_ret;exact⟨rfl,hb⟩
theorem Ga (T M:Nat)(L:List CD)(x:CD)(w:ϖ)(H:aF w T M L)(hL:L.length<=1000)(hr:(0<=x.r0/\0<=x.r1/\0<=x.r2)/\(0<=x.l0/\0<=x.l1/\0<=x.l2)/\(0<=x.u0/\0<=x.u1/\0<=x.u2)):Calls Ψ 141 #[T,φ (fx x)] w λe w'=>∃n L',e=ϰ (ι ε n)/\aF w' T M L'/\(n=0->L'=fz x L/\x.ok)/\(n≠0->L'=L)/\KO (λy=>y=M) w w':=by
 obtain⟨T',M',Jo⟩:=H;have zT:=T'.size;have zM:=M'.size;have Rb:=aB T' M';obtain⟨a1,JI⟩:=Nq (di L x.id);obtain⟨b1,IG⟩:=Nq ((fc L x.id).isSome);obtain⟨n0,Kv⟩:=Nq (wr x.id x.par x.lf (kd x.r0 x.r1 x.r2) (kd x.l0 x.l1 x.l2) (kd x.u0 x.u1 x.u2) x.pk x.by_);obtain⟨sx,Tv⟩:=Nq (cW (kd x.l0 x.l1 x.l2));obtain⟨sp,Vo⟩:=Nq (kh L x.par);change Hid _ at JI IG Kv Tv Vo;have Rr:=T'.r;have I9:=(aC M' JI.out IG.out).1;go_in;go_wp2_with fail;refine mL (θ3 (Ks (λy=>y=M) w) T' M') (λv=>ah v w #[T] 145/\ah v (w+1) (fx x) 43) ⟨ρB,ρB⟩ ?_;clear Rr;rintro v1 ⟨Q1,X1⟩ ⟨F',Kr,MU⟩ Rr;replace I9:=(aC MU JI.out IG.out).1;replace Rr:=θ2 Q1.r X1.r;refine(nj x.id x.par x.lf x.r0 x.r1 x.r2 x.l0 x.l1 x.l2 x.u0 x.u1 x.u2 x.pk x.by_ _ hr.1 hr.2.1 hr.2.2 n0 Kv.out).mono ?_;rintro e v2 ⟨rfl,kx⟩;clear Rr;obtain⟨⟨KW,Ml,Q2,X2,Iz⟩,Rr⟩:=Mx kx (θ5 Kr MU Q1 X1 F');replace I9:=(aC Ml JI.out IG.out).1;clear kx;by_cases e0:n0≠0
 ·have OH:(n0 !=0)=true:=by simpa using e0
  go_wp2;go_ret;exact⟨n0,L,rfl,⟨KW.below ρE KW.size,Ml.below ρE,Jo⟩,λh=>ax h e0,λ_=>rfl,Iz.step0 ρE⟩
 have e0:n0=0:=ρa;subst e0;have WK:x.ok:=qn hr Kv.out;go_upto_region 6 with (fail);go_cut [6,7] (λs6 s7 wx=>∃X:Nat,s6=X/\s7=β b1/\v2.heap.size<=X/\KO (λy=>y=M) w wx/\ah wx (T) #[.map (some M)] 204/\aA wx (M) (tl L)/\ah wx w #[T] 145/\ah wx (w+1) (fx x) 43/\ah wx (X) (fx a1) 43);case first=>
  have l0a:=(aC (Ml.drew) JI.out IG.out).1;have l0b:=λo=>(aC ((Ml.alloc o).drew) JI.out IG.out).1;have l0c:=λo=>(aC ((Ml.drew).alloc o) JI.out IG.out).1;go_region
  all_goals
   go_wp2;go_meet;exact⟨_,rfl,rfl,by simp,Iz.step0 ρE,ρB,Ml.below ρE,ρB,ρB,ρB⟩
 case rest=>
  obtain⟨PY,rfl,rfl,lY,ID,KA,MJ,Q3,X3,Y3⟩:=hcut
  rename ϖ=>v3
  have zw3:=ID.size;have Ss:=KA.r;have I9:=(aC MJ JI.out IG.out).1;replace Ss:=θ4 KA.r Q3.r X3.r Y3.r;by_cases e0:b1=false
  ·subst e0;go_wp2;go_ret;exact⟨6,L,rfl,⟨KA.below ρE KA.size,MJ.below ρE,Jo⟩,λh=>ax h ρa,λ_=>rfl,ID.step0 ρE⟩
  have e0:b1=true:=by simpa using e0
  subst e0;obtain⟨t,ht⟩:=Nq (x.par !=a1.par);obtain⟨f,hf⟩:=Nq (x.lf==a1.lf);go_upto_region 10 with (fail);refine bS (θ6 ID KA MJ Q3 X3 Y3) ?_;clear Rr Ss;rintro v4 ⟨IC,Kt,Nw,Q4,X4,Y4⟩ Rr;replace I9:=(aC Nw JI.out IG.out).1;rcases t with _|_
  rotate_left
  ·exact ηx
  rcases f with _|_
  ·exact ηx
  go_wp2_with fail;refine kL (θ6 IC Kt Nw Q4 X4 Y4) ?_;clear Rr;rintro v5 ⟨IN,NR,SY,Q5,X5,Y5⟩ Rr;replace I9:=(aC SY JI.out IG.out).1;refine(lb _ x.id x.par x.lf x.r0 x.r1 x.r2 x.l0 x.l1 x.l2 x.u0 x.u1 x.u2 x.pk x.by_ hr.2.1 sx Tv.out).mono ?_;rintro e v6 ⟨rfl,kx⟩;clear Rr;obtain⟨⟨Oi,TJ,Q6,X6,Y6,IQ⟩,Rr⟩:=Mx kx (θ6 NR SY Q5 X5 Y5 IN);replace I9:=(aC TJ JI.out IG.out).1;clear kx;rcases sx with _|_
  ·go_wp2_with fail;refine kL (θ6 IQ Oi TJ Q6 X6 Y6) ?_;clear Rr;rintro v7 ⟨I8,TS,RZ,Q7,X7,Y7⟩ Rr;replace I9:=(aC RZ JI.out IG.out).1;refine(lb _ x.id x.par x.lf x.r0 x.r1 x.r2 x.l0 x.l1 x.l2 x.u0 x.u1 x.u2 x.pk x.by_ hr.2.1 false Tv.out).mono ?_;rintro e v8 ⟨rfl,kx⟩;clear Rr;obtain⟨⟨QC,OW,Q8,X8,Y8,Je⟩,Rr⟩:=Mx kx (θ6 TS RZ Q7 X7 Y7 I8);replace I9:=(aC OW JI.out IG.out).1;clear kx;go_wp2_with fail;refine kL (θ6 Je QC OW Q8 X8 Y8) ?_;clear Rr;rintro v9 ⟨Jl,Ry,OY,Q9,X9,Y9⟩ Rr;replace I9:=(aC OY JI.out IG.out).1;refine(jK T M L x.id _ ⟨Ry,OY,Jo⟩ hL).mono ?_;rintro e Lj ⟨u,rfl,h,kx⟩;clear Rr;obtain⟨⟨Ny,Ll,Q10,QG,Xw,I7⟩,Rr⟩:=Mx kx (θ6 Ry OY Q9 X9 Y9 Jl);replace I9:=(aC Ll JI.out IG.out).1;clear kx;have Qw:=h;clear h;have hg:(aN (λc=>decide (c.par=x.id)) L).length<=1000000:=by rw[aN,List.length_mergeSort,pf];have:=ZH (λc:CD=>decide (c.par=x.id)) L;omega
   go_wp2_with fail;refine kL (θ7 I7 Ny Ll Q10 QG Xw Qw) ?_;clear Rr;rintro JR ⟨Jn,Lo,JV,Qz,Th,Y11,Qc⟩ Rr;replace I9:=(aC JV JI.out IG.out).1;refine(lP v9 u _ (pS L) 178 #[w] _ Qc hg (enters_of Tryz.func178 ρh rfl) (λy v hv=>F2 T M w L y v ⟨Lo.below hv Lo.size,JV.below hv,Jo⟩ (Qz.below hv Qz.size))).mono ?_;rintro e Mj ⟨rfl,kx⟩;clear Rr;obtain⟨⟨Lc,Kc,Q12,MW,Y12,Ou,Jk⟩,Rr⟩:=Mx kx (θ7 Lo JV Qz Th Y11 Qc Jn);replace I9:=(aC Kc JI.out IG.out).1;clear kx;obtain⟨z,hz⟩:=Nq ((aN (λc=>decide (c.par=x.id)) L).any (pS L));rw[hz];clear hz;rcases z with _|_
   rotate_left
   ·go_wp2;go_ret;exact⟨29,L,rfl,⟨Lc.below ρE Lc.size,Kc.below ρE,Jo⟩,λh=>ax h ρa,λ_=>rfl,Jk.step0 ρE⟩
   go_upto_region 14 with (fail);refine bS (θ7 Jk Lc Kc Q12 MW Y12 Ou) ?_;clear Rr;rintro NO ⟨JM,Ms,J3,Za,OA,Y13,UU⟩ Rr;replace I9:=(aC J3 JI.out IG.out).1;have q:=af Ms;have Rg:=λd os=>(aC (J3.grow d os) JI.out IG.out).1;have q:=θ3 (af Za) (af OA) (af Y13);refine Ws 7 (gw ?_);refine bF (θ7 Ms J3 Za OA Y13 UU JM) ?_;clear Rr;rintro RW ⟨QB,Mq,Q14,X14,Y14,YK,Mh⟩ Rr;replace I9:=(aC Mq JI.out IG.out).1;clear q Rg Ms J3 Za OA Y13 UU;obtain⟨v15,Js,MV,kx,zx⟩:=bz Φ Θ Mq x.id (φ (fx x));have OR:=Mh.trans kx κl;have Ox:=QB.ko kx (by intro h;omega);go_wp2;go_ret;exact⟨0,fz x L,rfl,⟨Ox.below ρE Ox.size,by rw[lW];exact MV.below ρE,λc hc=>(ip hc).elim (λe=>e ▸ WK) (Jo c)⟩,λ_=>⟨rfl,WK⟩,λh=>ax rfl h,OR.step0 ρE⟩
  ·go_wp2_with fail;refine kL (θ6 IQ Oi TJ Q6 X6 Y6) ?_;clear Rr;rintro v7 ⟨I8,TS,RZ,Q7,X7,Y7⟩ Rr;replace I9:=(aC RZ JI.out IG.out).1;refine(tQ T M L x.par _ ⟨TS,RZ,Jo⟩).mono ?_;rintro e v8 ⟨rfl,kx⟩;clear Rr;obtain⟨⟨QC,OW,Q8,X8,Y8,Je⟩,Rr⟩:=Mx kx (θ6 TS RZ Q7 X7 Y7 I8);replace I9:=(aC OW JI.out IG.out).1;clear kx;rw[Vo.out];rcases sp with _|_
   ·go_wp2;go_ret;exact⟨29,L,rfl,⟨QC.below ρE QC.size,OW.below ρE,Jo⟩,λh=>ax h ρa,λ_=>rfl,Je.step0 ρE⟩
   go_wp2_with fail;refine kL (θ6 Je QC OW Q8 X8 Y8) ?_;clear Rr;rintro v9 ⟨Jl,Ry,OY,Q9,X9,Y9⟩ Rr;replace I9:=(aC OY JI.out IG.out).1;refine(lb _ x.id x.par x.lf x.r0 x.r1 x.r2 x.l0 x.l1 x.l2 x.u0 x.u1 x.u2 x.pk x.by_ hr.2.1 true Tv.out).mono ?_;rintro e Lj ⟨rfl,kx⟩;clear Rr;obtain⟨⟨Ny,Ll,Q10,QG,Xw,I7⟩,Rr⟩:=Mx kx (θ6 Ry OY Q9 X9 Y9 Jl);replace I9:=(aC Ll JI.out IG.out).1;clear kx;go_upto_region 14 with (fail);refine bS (θ6 I7 Ny Ll Q10 QG Xw) ?_;clear Rr;rintro JR ⟨Jn,Lo,JV,Qz,Th,Y11⟩ Rr;replace I9:=(aC JV JI.out IG.out).1;have q:=af Lo;have Rg:=λd os=>(aC (JV.grow d os) JI.out IG.out).1;have q:=θ3 (af Qz) (af Th) (af Y11);refine Ws 7 (gw ?_);refine bF (θ6 Lo JV Qz Th Y11 Jn) ?_;clear Rr;rintro Mj ⟨Lc,Kc,Q12,MW,Y12,Jk⟩ Rr;replace I9:=(aC Kc JI.out IG.out).1;clear q Rg Lo JV Qz Th Y11;obtain⟨NO,Js,J3,kx,zx⟩:=bz Φ Θ Kc x.id (φ (fx x));have JM:=Jk.trans kx κl;have Ms:=Lc.ko kx (by intro h;omega);go_wp2;go_ret;exact⟨0,fz x L,rfl,⟨Ms.below ρE Ms.size,by rw[lW];exact J3.below ρE,λc hc=>(ip hc).elim (λe=>e ▸ WK) (Jo c)⟩,λ_=>⟨rfl,WK⟩,λh=>ax rfl h,JM.step0 ρE⟩
end Go.Proofs.YtfdlemkplejdnaaGreat
