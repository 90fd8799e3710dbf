/- WholeBehind, part 39. Conditions: none. -/
import Derived.Test.YtfdlemkplejdnaaGreatA33
import Derived.Test.YtfdlemkplejdnaaGreatA37
namespace Go.Proofs.YtfdlemkplejdnaaGreat
open Go.RowKit Go.Sort
open Value renaming int->ι,pointer->ψ,slice->ζ,tuple->χ,agg->φ,map->μ,bool->β
open IntKind renaming u64->υ,i64->ε,u16->ω
open Ending renaming returned->ϰ
open Go.Proofs.Tryz renaming prog->Ψ,underlying3->Θ,underlying147->Δ,underlying152->Γ,underlying202->Φ,underlying39->Ξ,underlying207->Ω
open Go renaming World->ϖ,Value->ϗ
set_option linter.unusedVariables false
set_option linter.unusedSimpArgs false
set_option maxHeartbeats 8000000
set_option maxRecDepth 100000
theorem CY (v:ϗ)(L:List Int)(id:Int)(w:ϖ)(B:Nat)(G:az 1 (λx:Int=>[Value.int .i64 x]) w B v L)(hl:L.length<=1000):
  CB 44 #[v,ι ε id] w (β (decide (id ∈ L))):=by
 obtain⟨oa,oc,rfl,-⟩:=G.slice;obtain⟨n,hn⟩:=Nq L.length;rw[hn] at G hl ⊢;have zB:B<=w:=ρu;obtain⟨z,hz⟩:=Nq (decide (id ∈ L));rw[hz];unfold CB;go_in;go_wp2_with fail;go_loopw [9] (λk wr=>∃(a b:List Int),k=ι ε (a.length:Nat)/\L=a++b/\(id ∉ a)/\az 1 (λx:Int=>[Value.int .i64 x]) wr B (ζ oa n oc) L/\KO (λ_=>False) w wr) (λk _=>n - (intOf k).toNat);case atStart=>exact⟨[],L,rfl,rfl,by simp,G.below ρE,ρK⟩
 case round=>
  obtain⟨a,b,rfl,IF,I3,G0,IB⟩:=hrel;have zw:=IB.size;have IK:a.length+b.length=n:=ρy;obtain⟨q,hq⟩:=Nq a.length;rw[hq] at IK ⊢;cases b with
  | nil=>
   have IJ:¬(q:Int)<(n:Int):=ρo;have hd:=ZF IJ;have Jr:z=false:=by rw[<- hz,IF,ZA];exact ZF I3
   subst Jr;change Hid _ at IK IF hq I3 hz;go_wp2;go_ret;exact⟨rfl,IB.toBelow.trans ρE⟩
  | cons c r=>
   have IJ:(q:Int)<(n:Int):=ρo;have hd:=ZT IJ;have Jm:L[q]?=some c:=ρF;have KL:q<n:=ρa;obtain⟨g0,II,rfl,hg,RA⟩:=G0.at Jm;have Na:g0<wr:=ρa;have b0:wr.cell? ⟨g0,II+q*1,none⟩=some (ι ε c):=RA 0 _ rfl;have b1:wr.cell? ⟨g0,II+q,none⟩=some (ι ε c):=τu;have QY:=IF;change Hid _ at IK hq IF Jm hn I3 hz QY;by_cases c1:c=id
   ·have d1:(c==id)=true:=by rw[c1];exact beq_self_eq_true _
    have Jr:z=true:=by rw[<- hz.out,QY.out];exact ZT (by simp[c1])
    subst Jr;clear QY;replace c1:=ag c1;go_wp2;go_ret;exact⟨rfl,IB.toBelow.trans ρE⟩
   ·have d1:(c==id)=false:=ZN.2 c1;have PF:id ∉ a++[c]:=λh=>(ZM.1 h).elim I3.out (λh=>c1 (ZS.1 h).symm);change Hid _ at PF c1;go_wp2;go_roundw;case rel=>exact⟨a++[c],r,by rw[ZL,hq.out];go_num,by rw[IF.out];simp,PF.out,G0.below ρE,IB.step0 ρE⟩
    case measure=>have:=IK.out;simp[intOf] at*;omega
def bA (ids:List Int)(f t:Int):Nat->List EV->Int
 | _,[]=>0
 | q,c::r=>(if f<=(q:Int)/\(q:Int)<=t/\c.inn=false/\c.cls ∈ ids/\0<c.pk.len then c.pk.len else 0)+bA ids f t (q+1) r
theorem ue (v u:ϗ)(L:List EV)(ids:List Int)(f t:Int)(hc:∀c ∈ L,(c.inn=false->0<c.pk.len)/\c.pk.len<=16384)(w:ϖ)(B B2:Nat)(G:az 12 mQ w B v L)(hl:L.length<=1000)(Gi:az 1 (λx:Int=>[Value.int .i64 x]) w B2 u ids)(My:ids.length<=1000):
  CB 25 #[v,u,ι ε f,ι ε t] w (bA ids f t 0 L):=by
 obtain⟨oa,oc,rfl,-⟩:=G.slice;obtain⟨n,hn⟩:=Nq L.length;rw[hn] at G hl ⊢;have zB:B<=w:=ρu;obtain⟨da,dc,rfl,-⟩:=Gi.slice;obtain⟨dn,Mu⟩:=Nq ids.length;rw[Mu] at Gi ⊢;replace Mu:=ag Mu;have zB2:B2<=w:=by obtain⟨_,_,_,_,h,_⟩:=Gi;exact h
 obtain⟨Y,hY⟩:=Nq (bA ids f t 0 L);rw[hY];replace hY:=ag hY;unfold CB;go_in;go_wp2_with fail;go_loopw [9,14] (λo k wr=>∃(a b:List EV) (s:Int),k=ι ε (a.length:Nat)/\L=a++b/\(o=s)/\(s+bA ids f t a.length b=Y)/\(0<=s/\s<=a.length*16384)/\az 1 (λx:Int=>[Value.int .i64 x]) wr B2 (ζ da dn dc) ids/\az 12 mQ wr B (ζ oa n oc) L/\KO (λ_=>False) w wr) (λ_ k _=>n - (intOf k).toNat);case atStart=>exact⟨[],L,0,rfl,rfl,rfl,by rw[Int.zero_add];exact hY.out,by simp,Gi.below ρE,G.below ρE,ρK⟩
 case round=>
  obtain⟨a,b,s,rfl,IF,rfl,hs,PM,D0,G0,IB⟩:=hrel;have zw:=IB.size;have IK:a.length+b.length=n:=ρy;obtain⟨q,hq⟩:=Nq a.length;rw[hq] at IK ⊢;cases b with
  | nil=>
   have IJ:¬(q:Int)<(n:Int):=ρo;have hd:=ZF IJ;have Ke:L=a:=ρN;have Jd:Y=s:=by rw[<- hs];exact Int.add_zero s
   subst Jd;change Hid _ at IK IF hq Ke hs;go_wp2;go_ret;exact⟨rfl,IB.toBelow.trans ρE⟩
  | cons c r=>
   have IJ:(q:Int)<(n:Int):=ρo;have hd:=ZT IJ;have Jm:L[q]?=some c:=ρF;have Ku:c ∈ L:=ρR;have KL:q<n:=ρa;have YD:B<=wr:=σk;obtain⟨g0,II,rfl,hg,RA⟩:=G0.at Jm;have Na:g0<wr:=ρa;have Uk:=hc c Ku;obtain⟨z,hz⟩:∃z,decide (f<=(q:Int)/\(q:Int)<=t/\c.inn=false/\c.cls ∈ ids/\0<c.pk.len)=z:=⟨_,rfl⟩;rw[hq] at PM hs;have hs':=hs;have Mg:bA ids f t q (c::r)=(if f<=(q:Int)/\(q:Int)<=t/\c.inn=false/\c.cls ∈ ids/\0<c.pk.len then c.pk.len else 0)+bA ids f t (q+1) r:=rfl;obtain⟨zi,hzi⟩:=Nq (decide (c.cls ∈ ids));have hH:∀u,az 1 (λx:Int=>[Value.int .i64 x]) u B2 (ζ da dn dc) ids->CB 44 #[ζ da dn dc,ι ε c.cls] u (β zi):=λu h=>by have g:=CY _ ids c.cls u B2 h My;rw[hzi] at g;exact g
   change Hid _ at IK hq IF Jm hn hs hs' Mg hzi;go_upto_region 4 with (fail);go_upto_region 5 with (refine Go.wpList_load_mid rfl 52 _ rfl g0 (II+q*12) rfl (mQ c) _ RA Tryz.underlying52 rfl ρh ?_;try simp only[mQ]);refine Jw (θ3 IB D0 G0) (λv=>ah v wr #[ι ε c.op,β c.inn,β c.real,c.at_,c.done,ι ε c.cls,c.pk.id,ι ε c.pk.len,ι ω c.pk.h0,ι ω c.pk.h1,ι ω c.pk.h2,ι ω c.pk.h3] 52) ρB ?_;rintro v1 X1 ⟨F',D1,G1⟩;have Rr:=X1.r;by_cases c0:f<=(q:Int)
   rotate_left
   ·have d0:=ZF c0;have Jr:z=false:=by rw[<- hz];exact ZF (λh=>c0 h.1)
    subst Jr;have Ja:s+bA ids f t (q+1) r=Y:=ρT;change Hid _ at hz Ja;go_wp2;go_roundw;case rel=>exact⟨a++[c],r,s,by rw[ZL,hq.out];go_num,by rw[IF.out];simp,rfl,by rw[ZL,hq.out];exact Ja.out,by rw[ZL,hq.out];simp;omega,D1.below ρE,G1.below ρE,F'.step0 ρE⟩
    case measure=>have:=IK.out;simp[intOf] at*;omega
   have d0:=ZT c0;by_cases c1:(q:Int)<=t
   rotate_left
   ·have d1:=ZF c1;have Jr:z=false:=by rw[<- hz];exact ZF (λh=>c1 h.2.1)
    subst Jr;have Ja:s+bA ids f t (q+1) r=Y:=ρT;change Hid _ at hz Ja;go_wp2;go_roundw;case rel=>exact⟨a++[c],r,s,by rw[ZL,hq.out];go_num,by rw[IF.out];simp,rfl,by rw[ZL,hq.out];exact Ja.out,by rw[ZL,hq.out];simp;omega,D1.below ρE,G1.below ρE,F'.step0 ρE⟩
    case measure=>have:=IK.out;simp[intOf] at*;omega
   have d1:=ZT c1;by_cases c2:c.inn=false
   rotate_left
   ·have d2:c.inn=true:=by simpa using c2
    have Jr:z=false:=by rw[<- hz];exact ZF (λh=>c2 h.2.2.1)
    subst Jr;have Ja:s+bA ids f t (q+1) r=Y:=ρT;change Hid _ at hz Ja;go_wp2;go_roundw;case rel=>exact⟨a++[c],r,s,by rw[ZL,hq.out];go_num,by rw[IF.out];simp,rfl,by rw[ZL,hq.out];exact Ja.out,by rw[ZL,hq.out];simp;omega,D1.below ρE,G1.below ρE,F'.step0 ρE⟩
    case measure=>have:=IK.out;simp[intOf] at*;omega
   have d2:c.inn=false:=c2;go_wp2_with fail;refine Zc (θ4 F' D1 G1 X1) ?_;rintro v2 ⟨Iz,D2,G2,X2⟩;refine(hH v2 D2).mono ?_;rintro e v3 ⟨rfl,kx⟩;clear Rr;obtain⟨⟨D3,G3,X3,ID⟩,Rr⟩:=Mx kx (θ4 D2 G2 X2 Iz);clear kx;by_cases c3:c.cls ∈ ids
   rotate_left
   ·have hzf:zi=false:=by rw[<- hzi.out];exact ZF c3
    subst hzf;have Jr:z=false:=by rw[<- hz];exact ZF (λh=>c3 h.2.2.2.1)
    subst Jr;have Ja:s+bA ids f t (q+1) r=Y:=ρT;change Hid _ at hz Ja;go_wp2;go_roundw;case rel=>exact⟨a++[c],r,s,by rw[ZL,hq.out];go_num,by rw[IF.out];simp,rfl,by rw[ZL,hq.out];exact Ja.out,by rw[ZL,hq.out];simp;omega,D3.below ρE,G3.below ρE,ID.step0 ρE⟩
    case measure=>have:=IK.out;simp[intOf] at*;omega
   have hzt:zi=true:=by rw[<- hzi.out];exact ZT c3
   subst hzt;have c4:0<c.pk.len:=Uk.1 c2;have d4:=ZT c4;have Jr:z=true:=by rw[<- hz];exact ZT ⟨c0,c1,c2,c3,c4⟩
   subst Jr;obtain⟨s2,Ja⟩:=Nq (s+c.pk.len);have hcl2:=Uk.2;have Tw:IntKind.u64.wrap c.pk.len=c.pk.len:=ZZ _ ⟨by omega,by omega⟩;have Yn:IntKind.u64.wrap (s+c.pk.len)=s2:=τL;have hsum:s2+bA ids f t (q+1) r=Y:=by rw[<- hs.out,Mg.out,ZP (of_decide_eq_true hz),<- Ja];omega
   have hs2b:0<=s2/\s2<=q*16384+16384:=ρa;change Hid _ at hz c3 hsum Ja;clear Uk;go_wp2;go_roundw;case rel=>exact⟨a++[c],r,s2,by rw[ZL,hq.out];go_num,by rw[IF.out];simp,rfl,by rw[ZL,hq.out];exact hsum.out,by rw[ZL,hq.out];simp;omega,D3.below ρE,G3.below ρE,ID.step0 ρE⟩
   case measure=>have:=IK.out;simp[intOf] at*;omega
def bZ (n:Int)(L:List EV):Int:=(L.filter λe=>decide (e.op<n)).length
theorem vS (n:Int)(a:List EV)(e:EV):bZ n (a++[e])=bZ n a+(if e.op<n then 1 else 0):=by
 unfold bZ;rw[List.filter_append,ZL];by_cases h:e.op<n
 ·rw[ZP h,List.filter_cons,ZP (ZT h)];simp
 ·rw[ZI h,List.filter_cons,ZI (by simp[h])];simp
theorem iy (n:Int)(a:List EV):0<=bZ n a/\bZ n a<=a.length:=by have:=ZH (λe:EV=>decide (e.op<n)) a;unfold bZ;omega
theorem Fp (v:ϗ)(L:List EV)(m:Int)(w:ϖ)(B:Nat)(G:az 12 mQ w B v L)(hl:L.length<=1000):
  CB 22 #[v,ι ε m] w (ι ε (bZ m L)):=by
 obtain⟨oa,oc,rfl,-⟩:=G.slice;obtain⟨n,hn⟩:=Nq L.length;rw[hn] at G hl ⊢;have zB:B<=w:=ρu;obtain⟨Y,hY⟩:=Nq (bZ m L);rw[hY];replace hY:=ag hY;unfold CB;go_in;go_wp2_with fail;go_loopw [5,10] (λo k wr=>∃(a b:List EV) (s:Int),k=ι ε (a.length:Nat)/\L=a++b/\(o=ι ε s)/\(bZ m a=s)/\az 12 mQ wr B (ζ oa n oc) L/\KO (λ_=>False) w wr) (λ_ k _=>n - (intOf k).toNat);case atStart=>exact⟨[],L,0,rfl,rfl,rfl,rfl,G.below ρE,ρK⟩
 case round=>
  obtain⟨a,b,s,rfl,IF,rfl,hs,G0,IB⟩:=hrel;have zw:=IB.size;have IK:a.length+b.length=n:=ρy;obtain⟨q,hq⟩:=Nq a.length;rw[hq] at IK ⊢;cases b with
  | nil=>
   have IJ:¬(q:Int)<(n:Int):=ρo;have hd:=ZF IJ;have Ke:L=a:=ρN;have Jd:Y=s:=by rw[<- hY.out,<- hs,Ke]
   subst Jd;change Hid _ at IK IF hq Ke hs;go_wp2;go_ret;exact⟨rfl,IB.toBelow.trans ρE⟩
  | cons c r=>
   have IJ:(q:Int)<(n:Int):=ρo;have hd:=ZT IJ;have Jm:L[q]?=some c:=ρF;have Ku:c ∈ L:=ρR;have KL:q<n:=ρa;have YD:B<=wr:=σk;obtain⟨g0,II,rfl,hg,RA⟩:=G0.at Jm;have Na:g0<wr:=ρa;have JB:=vS m a c;rw[hs] at JB;have hsr:=iy m a;rw[hs,hq] at hsr;change Hid _ at IK hq IF Jm hn hs JB;go_upto_region 4 with (fail);go_upto_region 5 with (refine Go.wpList_load_mid rfl 52 _ rfl g0 (II+q*12) rfl (mQ c) _ RA Tryz.underlying52 rfl ρh ?_;try simp only[mQ]);refine Jw (θ2 IB G0) (λv=>ah v wr #[ι ε c.op,β c.inn,β c.real,c.at_,c.done,ι ε c.cls,c.pk.id,ι ε c.pk.len,ι ω c.pk.h0,ι ω c.pk.h1,ι ω c.pk.h2,ι ω c.pk.h3] 52) ρB ?_;rintro v1 X1 ⟨F',G1⟩;have Rr:=X1.r;by_cases c1:c.op<m
   ·have d1:=ZT c1;obtain⟨s2,Ja⟩:=Nq (s+1);have hw:IntKind.i64.wrap (s+1)=s2:=by rw[Ja];exact IntWalk.i64_in _ ⟨by omega,by omega⟩
    have JQ:=ag (show bZ m (a++[c])=s2 by rw[JB.out,ZP c1,Ja]);change Hid _ at Ja c1;clear JB;go_wp2;go_roundw;case rel=>exact⟨a++[c],r,s2,by rw[ZL,hq.out];go_num,by rw[IF.out];simp,rfl,JQ.out,G1.below ρE,F'.step0 ρE⟩
    case measure=>have:=IK.out;simp[intOf] at*;omega
   have d1:=ZF c1;have JQ:=ag (show bZ m (a++[c])=s by rw[JB.out,ZI c1,Int.add_zero]);replace c1:=ag c1;clear JB;go_wp2;go_roundw;case rel=>exact⟨a++[c],r,s,by rw[ZL,hq.out];go_num,by rw[IF.out];simp,rfl,JQ.out,G1.below ρE,F'.step0 ρE⟩
   case measure=>have:=IK.out;simp[intOf] at*;omega
theorem xq (a t:Int)(w:ϖ)(ha:aq a)(ht:0<=t/\t<=Me):
  CB 42 #[nv a,t] w (nv (a*t)):=by
 obtain⟨p,hp⟩:=Nq (a*t);rw[hp];have Uo:lo a=a:=by unfold lo;omega
 have Wk:hi a=0:=κo;have a128:ai a:=ρx;have hpb:0<=p/\p<=Ma*Me:=σx;have MG:ai p:=ρx;have hHi:∀u,CB 61 #[nv a] u Ky:=λu=>by have h:=CZ a u;rw[Wk] at h;exact h
 change Hid _ at hp Uo Wk;unfold CB;go_in;go_wp2_with fail;refine Jc (Ks (λ_=>False) w) (λv=>ah v w (bv a) 70/\ah v (w+1) fD 70) ⟨ρB,ρB⟩ ?_;rintro v1 ⟨C1,R1⟩ F';have Rr:=θ2 C1.r R1.r;refine(sL a a v1 Uo.out).mono ?_;rintro e v2 ⟨rfl,kx⟩;clear Rr;obtain⟨⟨C2,R2,Iz⟩,Rr⟩:=Mx kx (θ3 C1 R1 F');clear kx;go_wp2_with fail;refine Zc (θ3 Iz C2 R2) ?_;rintro v3 ⟨ID,C3,R3⟩;refine(fj a t p v3 ⟨ha.1,by omega⟩ ⟨ht.1,by omega⟩ hp.out).mono ?_;rintro e v4 ⟨rfl,kx⟩;clear Rr;obtain⟨⟨C4,R4,IC⟩,Rr⟩:=Mx kx (θ3 C3 R3 ID);clear kx;go_wp2_with fail;refine mL (θ3 IC C4 R4) (λv=>ah v v4 (bv p) 70) ρB ?_;clear Rr;rintro v5 X5 ⟨IN,C5,R5⟩ Rr;have Ss:=X5.r;refine(hHi v5).mono ?_;rintro e v6 ⟨rfl,kx⟩;clear Rr Ss;obtain⟨⟨C6,R6,X6,IQ⟩,Rr⟩:=Mx kx (θ4 C5 R5 X5 IN);clear kx;go_wp2_with fail;refine Zc (θ4 IQ C6 R6 X6) ?_;rintro v7 ⟨I8,C7,R7,X7⟩;refine(fj 0 t 0 v7 ρa ⟨ht.1,by omega⟩ (Int.zero_mul t)).mono ?_;rintro e v8 ⟨rfl,kx⟩;clear Rr;obtain⟨⟨C8,R8,X8,Je⟩,Rr⟩:=Mx kx (θ4 C7 R7 X7 I8);clear kx;have h0:ai 0:=ρx;have hT:∀u,CB 63 #[Ky,Ky] u (nv 0):=λu=>by have h:=Df 0 u h0;first|(rw[show hi 0=0 by decide,show lo 0=0 by decide] at h;exact h)|exact h
 go_upto_region 3 with (fail);refine jf (θ4 Je C8 R8 X8) (λv=>ah v v8 (bv 0) 70) ρB ?_;clear Rr;rintro v9 Y9 ⟨Jl,C9,R9,X9⟩ Rr;have Ss:=Y9.r;have q:=θ4 (af C9) (af R9) (af X9) (af Y9);refine Ws 5 (mw ?_)
 repeat (go_big_quiet_step ((first
   | (go_at_call 62;(with_reducible exact bT (sL 0 0 _ rfl)))
   | (go_at_call 63;(with_reducible exact bT (hT _)))
   | (go_at_call 59;(with_reducible exact bT (iq p 0 p _ MG h0 (Int.add_zero p) MG))))))
 refine bF (θ5 C9 R9 X9 Y9 Jl) ?_;clear Rr Ss;rintro Lj ⟨SU,Qd,QG,Xw,I7⟩ Rr;clear q C9 R9 X9 Y9;go_wp2_with fail;refine eu Lj (λx=>x=w.heap.size+1) (λv=>ah v (w+1) (bv p) 70) ρB (λ_ kx=>kx) ?_;rintro JR LH k9;have TZ:=LH.cell;refine ZO (v:=nv p) (by simp[results,Tryz.results42,go_sem,TZ]) rfl ?_;exact⟨rfl,I7.toBelow.trans (k9.below I7.size ρC)⟩
theorem xr (a t:Int)(w:ϖ)(ha:aq a)(ht:0<=t/\t<=Me):
  CB 43 #[nv a,t] w (nv (a*t)):=by
 obtain⟨p,hp⟩:=Nq (a*t);rw[hp];have Uo:lo a=a:=by unfold lo;omega
 have Wk:hi a=0:=κo;have a128:ai a:=ρx;have hpb:0<=p/\p<=Ma*Me:=σx;have MG:ai p:=ρx;have hHi:∀u,CB 61 #[nv a] u Ky:=λu=>by have h:=CZ a u;rw[Wk] at h;exact h
 change Hid _ at hp Uo Wk;unfold CB;go_in;go_wp2_with fail;refine Jc (Ks (λ_=>False) w) (λv=>ah v w (bv a) 70/\ah v (w+1) fD 70) ⟨ρB,ρB⟩ ?_;rintro v1 ⟨C1,R1⟩ F';have Rr:=θ2 C1.r R1.r;refine(sL a a v1 Uo.out).mono ?_;rintro e v2 ⟨rfl,kx⟩;clear Rr;obtain⟨⟨C2,R2,Iz⟩,Rr⟩:=Mx kx (θ3 C1 R1 F');clear kx;go_wp2_with fail;refine Zc (θ3 Iz C2 R2) ?_;rintro v3 ⟨ID,C3,R3⟩;refine(fj a t p v3 ⟨ha.1,by omega⟩ ⟨ht.1,by omega⟩ hp.out).mono ?_;rintro e v4 ⟨rfl,kx⟩;clear Rr;obtain⟨⟨C4,R4,IC⟩,Rr⟩:=Mx kx (θ3 C3 R3 ID);clear kx;go_wp2_with fail;refine mL (θ3 IC C4 R4) (λv=>ah v v4 (bv p) 70) ρB ?_;clear Rr;rintro v5 X5 ⟨IN,C5,R5⟩ Rr;have Ss:=X5.r;refine(hHi v5).mono ?_;rintro e v6 ⟨rfl,kx⟩;clear Rr Ss;obtain⟨⟨C6,R6,X6,IQ⟩,Rr⟩:=Mx kx (θ4 C5 R5 X5 IN);clear kx;go_wp2_with fail;refine Zc (θ4 IQ C6 R6 X6) ?_;rintro v7 ⟨I8,C7,R7,X7⟩;refine(fj 0 t 0 v7 ρa ⟨ht.1,by omega⟩ (Int.zero_mul t)).mono ?_;rintro e v8 ⟨rfl,kx⟩;clear Rr;obtain⟨⟨C8,R8,X8,Je⟩,Rr⟩:=Mx kx (θ4 C7 R7 X7 I8);clear kx;have h0:ai 0:=ρx;have hT:∀u,CB 63 #[Ky,Ky] u (nv 0):=λu=>by have h:=Df 0 u h0;first|(rw[show hi 0=0 by decide,show lo 0=0 by decide] at h;exact h)|exact h
 go_upto_region 3 with (fail);refine jf (θ4 Je C8 R8 X8) (λv=>ah v v8 (bv 0) 70) ρB ?_;clear Rr;rintro v9 Y9 ⟨Jl,C9,R9,X9⟩ Rr;have Ss:=Y9.r;have q:=θ4 (af C9) (af R9) (af X9) (af Y9);refine Ws 5 (mw ?_)
 repeat (go_big_quiet_step ((first
   | (go_at_call 62;(with_reducible exact bT (sL 0 0 _ rfl)))
   | (go_at_call 63;(with_reducible exact bT (hT _)))
   | (go_at_call 59;(with_reducible exact bT (iq p 0 p _ MG h0 (Int.add_zero p) MG))))))
 refine bF (θ5 C9 R9 X9 Y9 Jl) ?_;clear Rr Ss;rintro Lj ⟨SU,Qd,QG,Xw,I7⟩ Rr;clear q C9 R9 X9 Y9;go_wp2_with fail;refine eu Lj (λx=>x=w.heap.size+1) (λv=>ah v (w+1) (bv p) 70) ρB (λ_ kx=>kx) ?_;rintro JR LH k9;have TZ:=LH.cell;refine ZO (v:=nv p) (by simp[results,Tryz.results43,go_sem,TZ]) rfl ?_;exact⟨rfl,I7.toBelow.trans (k9.below I7.size ρC)⟩
end Go.Proofs.YtfdlemkplejdnaaGreat
