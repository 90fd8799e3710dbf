/- WholeBehind, part 28. Conditions: none. -/
import Derived.Test.YtfdlemkplejdnaaGreatA24
namespace Go.Proofs.YtfdlemkplejdnaaGreat
open Go.RowKit Go.Sort
open Value renaming int->ι,pointer->ψ,slice->ζ,tuple->χ,agg->φ,map->μ,bool->β
open IntKind renaming u64->υ,i64->ε,u16->ω
open Ending renaming returned->ϰ
open Go.Proofs.Tryz renaming prog->Ψ,underlying3->Θ,underlying147->Δ,underlying152->Γ,underlying202->Φ,underlying39->Ξ,underlying207->Ω
open Go renaming World->ϖ,Value->ϗ
set_option linter.unusedVariables false
set_option linter.unusedSimpArgs false
set_option maxHeartbeats 8000000
set_option maxRecDepth 100000
theorem tR {L:List CD} {i:Int} {c:CD} (h:fc L i=some c):i ∈ aN (λ_=>true) L:=by unfold aN;rw[List.mem_mergeSort,List.mem_map];exact⟨c,by simp[(aM h).1],(aM h).2⟩
theorem wh (T M:Nat)(L:List CD)(w:ϖ)(H:aF w T M L)(hL:L.length<=1000):Calls Ψ 72 #[T] w λe w'=>e=ϰ (ψ (some ⟨w+3,0,none⟩))/\(∀o:aT,o (w+3)=.ac->o w.heap.size=.ab->o (w+1)=.ao->o (w+2)=.ak->cK o w' (w+3) w (w+1) (w+2) L ⟨λ_=>false,λ_=>[]⟩)/\Below w w w':=by
 have Lx:=gi H;obtain⟨ys,Jd⟩:=Nq (aN (λ_=>true) L);have Pq:ys.length<=1000:=σJ;have Ql:∀y ∈ ys,∃c,fc L y=some c:=by rw[<- Jd];exact λy hy=>ig hy
 have Yq:ys.Nodup:=by rw[<- Jd];exact(i5 (p:=λ_=>true) Lx).imp (λh=>by omega)
 have hya:∀i c,fc L i=some c->i ∈ ys:=by rw[<- Jd];exact λi c h=>tR h
 have Jo:=H.2.2;have PG:=@run_makeMap Ψ;have zT:=H.1.size;have zM:=H.2.1.size;go_in;go_upto_region 2 with (fail);refine aU w (λv=>KO (λ_=>False) w v) (λv=>KO (λ_=>False) w v/\ah v (w+3) #[.map (some w),.map (some (w+1)),.map (some (w+2))] 216/\aA v w []/\aA v (w+1) []/\aA v (w+2) []) ρK (λkx=>⟨kx,ρB,?_,?_,?_⟩) ?_
 ·exact(((aA.made w).alloc _).alloc _).alloc _
 ·have:=((aA.made (w.alloc (.map #[] 0))).alloc (.map #[] 0)).alloc (.cells #[.map (some w),.map (some (w+1)),.map (some (w+2))] 216);simpa using this
 ·have:=(aA.made ((w.alloc (.map #[] 0)).alloc (.map #[] 0))).alloc (.cells #[.map (some w),.map (some (w+1)),.map (some (w+2))] 216);simpa using this
 rintro va ⟨kx,J',Om,YV,TE⟩;have z1:=J'.size;have H1:=H.below kx.toBelow;have F':KO (λ_=>False) w va:=kx;clear kx PG;go_wp2_with fail;refine(Cv T M L _ (H1.below ρE) hL).mono ?_;rintro e vb ⟨u,rfl,G2,k2⟩;rw[Jd] at G2;have KQ:Below va va vb:=Below.trans ρE (k2.mono ρp);have k0b:=F'.step0 KQ;have z2:=KQ.size;obtain⟨H2,JU,OU,Rt,Qu⟩:=Mw KQ (θ5 H1 J' Om YV TE);have G2:=ae.base_le G2 (b':=va.heap.size) ρp;obtain⟨ob,od,rfl⟩:=ae.slice G2;clear k2 KQ F' H1 J' Om YV TE;obtain⟨n,hn⟩:=Nq ys.length;rw[hn] at G2 Pq ⊢;change Hid _ at hn Jd Lx;have zT2:=H2.1.size;have zM2:=H2.2.1.size;go_wp2_with fail;go_loopw [17] (λk wr=>∃(a b:List Int) (LB:List (Int × ϗ)),k=ι ε (a.length:Nat)/\ys=a++b/\(∀i,lk i LB=if i ∈ a then ew L i else none)/\HI wr va (ζ ob n od) ys/\aF wr T M L/\ah wr (w+3) #[.map (some w),.map (some (w+1)),.map (some (w+2))] 216/\aA wr w LB/\aA wr (w+1) []/\aA wr (w+2) []/\KO (λx=>x=w.heap.size) vb wr) (λk _=>n - (intOf k).toNat);case atStart=>exact⟨[],ys,[],rfl,rfl,λi=>by simp[lk],G2,H2,JU,OU,Rt,Qu,KO.refl _ _⟩
 case round=>
  obtain⟨a,b,LB,rfl,IF,Zx,G0,T0,NW,Qq,UW,SR,IB⟩:=hrel;have zw:=IB.size;clear G2 H2 JU OU Rt Qu;have IK:a.length+b.length=n:=τe;obtain⟨q,hq⟩:=Nq a.length;rw[hq] at IK ⊢;cases b with
  | nil=>
   refine η8 ?_;intro IJ hd;have ha:a=ys:=ρN;change Hid _ at IK hq IF ha;go_wp2;go_ret;refine⟨rfl,λo h1 h2 h3 h4=>⟨NW.below ρE NW.size,⟨LB,Qq.below ρE,λi=>?_⟩,⟨[],UW.below ρE,λi=>rfl⟩,⟨[],SR.below ρE,λp=>.inl ⟨rfl,rfl⟩⟩,h1,h2,h3,h4⟩,((KO.trans k0b IB (F:=λ_=>False) (by intro x hx h;(try dsimp only at h);omega)).step0 ρE).toBelow⟩;rw[Zx i,ha.out];split
   ·rfl
   ·rename_i hi;unfold ew;cases hc:fc L i with
    | none=>rfl
    | some c=>exact ax (hya i c hc) hi
  | cons x r=>
   refine δb ?_;intro IJ hd;have Lz:ys[q]?=some x:=ρF;have IX:ys≠[]:=ρR;obtain⟨⟨id,par,lf,r0,r1,r2,l0,l1,l2,u0,u1,u2,pk,by_⟩,hc⟩:=Ql x ρR;have PO:x ∉ a:=λh=>by rw[IF,List.nodup_append] at Yq;exact Yq.2.2 x h x ρp rfl
   have ok:0<=l0/\0<=l1/\0<=l2:=(Jo _ (aM hc).1).2.2.2.1;obtain⟨Tz,MX,g0,e0,JA,e1,_⟩:=ae.at G0 (λ_=>rfl);have e1:=e1 IX;have e2:=(ZV e0).1;have e3:=(ZV e0).2.2;clear e0;subst e2;subst e3;subst e1;obtain⟨cx,gx,bx⟩:=HI.cell G0 q x Lz;have KL:q<n:=ρa;have KE:ew L x=if cW (kd l0 l1 l2) then some (φ #[ι ε par,ι ε (if lf then 1 else 0)]) else none:=by unfold ew;rw[hc];rfl
   obtain⟨s,hs⟩:=Nq (cW (kd l0 l1 l2));rw[hs] at KE;change Hid _ at IF hq JA IK hc KE Zx;have Rr:=NW.r;go_wp2_with fail;refine Zc (θ7 IB T0 G0 NW Qq UW SR) ?_;rintro v1 ⟨F',T1,G1,J',Om,YV,TE⟩;refine(wL T M L x _ _ T1 hc.out).mono ?_;rintro e v2 ⟨rfl,kx⟩;clear Rr;obtain⟨⟨T2,G2,JU,OU,Rt,Qu,Iz⟩,Rr⟩:=Mx kx (θ7 T1 G1 J' Om YV TE F');clear kx;go_upto_region 6 with (fail);refine jf (θ7 Iz T2 G2 JU OU Rt Qu) (λv=>ah v v2 (kE id par lf r0 r1 r2 l0 l1 l2 u0 u1 u2 pk by_) 43) ρB ?_;clear Rr;rintro v3 X3 ⟨ID,T3,G3,JL,Qr,TK,TF⟩ Rr;have Ss:=X3.r;go_wp2_with fail;refine Zc (θ8 ID T3 G3 JL Qr TK TF X3) ?_;rintro v4 ⟨IC,T4,G4,Kj,A'4,O'4,C'4,X4⟩;refine(lb _ _ _ _ _ _ _ _ _ _ _ _ _ _ _ ok s hs).mono ?_;rintro e v5 ⟨rfl,kx⟩;clear Rr Ss;obtain⟨⟨T5,G5,KI,A'5,O'5,C'5,X5,IN⟩,Rr⟩:=Mx kx (θ8 T4 G4 Kj A'4 O'4 C'4 X4 IC);clear kx;have zk:=IN.size;rcases s with _|_
   ·go_wp2;go_roundw;case rel=>exact⟨a++[x],r,LB,by rw[ZL,hq.out];go_num,by rw[IF.out];simp,λi=>by rw[Zx.out i];by_cases h1:i=x;(· subst h1;rw[ZI PO,KE.out];simp);(· simp[h1]),ae.below G5 ρE,T5.below ρE,KI.below ρE KI.size,A'5.below ρE,O'5.below ρE,C'5.below ρE,IN.step0 ρE⟩
    case measure=>exact ξc
   ·rcases lf with _|_
    ·go_upto_region 10 with (fail);refine jf (θ8 IN T5 G5 KI A'5 O'5 C'5 X5) (λv=>ah v v5 #[ι ε par,Kz] 219) ρB ?_;clear Rr;rintro v6 Y6 ⟨IQ,T6,G6,Og,A'6,O'6,C'6,X6⟩ Rr;have Ss:=Y6.r;refine bS (θ9 IQ T6 G6 Og A'6 O'6 C'6 X6 Y6) ?_;clear Rr Ss;rintro v7 ⟨I8,T7,G7,Oo,A'7,O'7,C'7,X7,Y7⟩ Rr;have Mi:=af Oo;have qX:=af X7;have qY:=af Y7;refine Ws 6 (gw ?_);refine bF (θ9 T7 G7 Oo A'7 O'7 C'7 X7 Y7 I8) ?_;clear Rr;rintro v8 ⟨T8,G8,Qb,A'8,O'8,C'8,X8,Y8,Je⟩ Rr;clear Mi qX qY T7 G7 Oo A'7 O'7 C'7 X7 Y7;obtain⟨v9,Js,A'9,kx,zx⟩:=bz Tryz.underlying212 Θ A'8 x (φ #[ι ε par,Kz]);have Jl:=Je.trans kx σh;have zk9:=Jl.size;have T9:=T8.ko kx ρj ρj;have G9:=ae.ko G8 kx τr;have OV:=Qb.ko kx ρj;have O'9:=O'8.ko kx ρj;have C'9:=C'8.ko kx ρj;clear kx zx;go_wp2;go_roundw;case rel=>exact⟨a++[x],r,dH x (φ #[ι ε par,Kz]) LB,by rw[ZL,hq.out];go_num,by rw[IF.out];simp,λi=>by rw[fh,Zx.out i];by_cases h1:i=x;(· subst h1;rw[ZP rfl,KE.out];simp[Ey]);(· simp[h1]),ae.below G9 ρE,T9.below ρE,OV.below ρE OV.size,A'9.below ρE,O'9.below ρE,C'9.below ρE,Jl.step0 ρE⟩
     case measure=>exact ξc
    ·go_upto_region 10 with (fail);refine jf (θ8 IN T5 G5 KI A'5 O'5 C'5 X5) (λv=>ah v v5 #[ι ε par,Ko] 219) ρB ?_;clear Rr;rintro v6 Y6 ⟨IQ,T6,G6,Og,A'6,O'6,C'6,X6⟩ Rr;have Ss:=Y6.r;refine bS (θ9 IQ T6 G6 Og A'6 O'6 C'6 X6 Y6) ?_;clear Rr Ss;rintro v7 ⟨I8,T7,G7,Oo,A'7,O'7,C'7,X7,Y7⟩ Rr;have Mi:=af Oo;have qX:=af X7;have qY:=af Y7;refine Ws 6 (gw ?_);refine bF (θ9 T7 G7 Oo A'7 O'7 C'7 X7 Y7 I8) ?_;clear Rr;rintro v8 ⟨T8,G8,Qb,A'8,O'8,C'8,X8,Y8,Je⟩ Rr;clear Mi qX qY T7 G7 Oo A'7 O'7 C'7 X7 Y7;obtain⟨v9,Js,A'9,kx,zx⟩:=bz Tryz.underlying212 Θ A'8 x (φ #[ι ε par,Ko]);have Jl:=Je.trans kx σh;have zk9:=Jl.size;have T9:=T8.ko kx ρj ρj;have G9:=ae.ko G8 kx τr;have OV:=Qb.ko kx ρj;have O'9:=O'8.ko kx ρj;have C'9:=C'8.ko kx ρj;clear kx zx;go_wp2;go_roundw;case rel=>exact⟨a++[x],r,dH x (φ #[ι ε par,Ko]) LB,by rw[ZL,hq.out];go_num,by rw[IF.out];simp,λi=>by rw[fh,Zx.out i];by_cases h1:i=x;(· subst h1;rw[ZP rfl,KE.out];simp[Ey]);(· simp[h1]),ae.below G9 ρE,T9.below ρE,OV.below ρE OV.size,A'9.below ρE,O'9.below ρE,C'9.below ρE,Jl.step0 ρE⟩
     case measure=>exact ξc
def fw (T Lm:Int)(L:List CD):SS:=⟨T,Lm,L,λi=>dT (di L i),⟨λ_=>false,λ_=>[]⟩,mA,λ_=>mA,0,0⟩
theorem pF {a:Act} {d:Tmp} {v:ϗ} (h:d<a.tmps.size)(t:Tmp):(a.put (some d) v).eval (.tmp t)=if t=d then v else a.eval (.tmp t):=by
 by_cases e:t=d
 ·subst e;simp[jk,Act.put,Array.getD_eq_getD_getElem?,h]
 ·simp only[ZI e];simp[jk,Act.put,Array.getD_eq_getD_getElem?,Array.getElem?_setIfInBounds_ne (Ne.symm e)]
theorem mr {P:Program} {o:Oper} {a:Act} {w:ϖ} {K:Act->ϖ->Prop} {Q:Exit->Act->ϖ->Prop} {f:FuncId} {args:Array ϗ} (h:(execOp a.eval o).run P w=.ok (.enter f args) w)(hc:Calls P f args w λe w'=>∃v,e=ϰ v/\K (a.put o.dst v) w'):o.wp P a w K Q:=by unfold Oper.wp;rw[h];refine hc.mono ?_;rintro e w' ⟨v,rfl,hk⟩;exact hk
theorem gt {P:Program} {o:Oper} {a:Act} {w w':ϖ} {K:Act->ϖ->Prop} {Q:Exit->Act->ϖ->Prop} {v:ϗ} (h:(execOp a.eval o).run P w=.ok (.value v) w')(hk:K (a.put o.dst v) w'):o.wp P a w K Q:=by unfold Oper.wp;rw[h];exact hk
theorem Bm {P:Program} {o:Oper} {a:Act} {w w':ϖ} {K:Act->ϖ->Prop} {Q:Exit->Act->ϖ->Prop} (h:(execOp a.eval o).run P w=.ok .skip w')(hk:K (a.put o.dst undef) w'):o.wp P a w K Q:=by unfold Oper.wp;rw[h];exact hk
abbrev pt (b:Nat):ϗ:=ψ (some ⟨b,0,none⟩)
structure eS (T Lm:Int) (base:Nat) (w0:ϖ) (ev:Nat->ϗ) (L:Nat->Bool) (w:ϖ) (o:aT):Prop where
 bel:Below base w0 w
 low:∀x,x<base->o x=.no
 c0:L 0=true->ev 23=φ #[ι ε T,ι ε Lm]
 c1:L 1=true->∃T' M',ev 24=pt T'/\aF w T' M' []/\o T'=.tr/\o M'=.tr
 c2:L 2=true->∃B,ev 25=.map (some B)/\aA w B []/\o B=.by_
 c3:L 3=true->∃B fp,ev 26=pt B/\aQ 209 w B (λ_=>none) fp/\∀x,fp x->o x=.lv
 c4:L 4=true->∃B,ev 27=.map (some B)/\aA w B (if L 6=true then [(0,ev 28)] else [])/\o B=.km
 c5:L 5=true->∃B fp,ev 28=pt B/\aQ 211 w B (λ_=>none) fp/\∀x,fp x->o x=.kd 0
 c7:L 7=true->ev 29=ev 27
 c8:L 8=true->ev 30=φ #[ι ε T,ι ε Lm,ev 24,ev 25,Kp,ev 26,ev 27,Ky,Ky]
 c9:L 9=true->∃B,ev 31=pt B/\ah w B #[ι ε T,ι ε Lm,ev 24,ev 25,Kp,ev 26,ev 27,Ky,Ky] 155/\o B=.sy
 c10:L 10=true->ev 4=ev 31
 d6:L 6=true->L 4=true/\L 5=true
 d7:L 7=true->L 4=true
 d8:L 8=true->L 0=true/\L 1=true/\L 2=true/\L 3=true/\L 4=true/\L 7=true
 d9:L 9=true->L 0=true/\L 1=true/\L 2=true/\L 3=true/\L 4=true/\L 7=true/\L 8=true
 d10:L 10=true->L 9=true
section
variable {T Lm:Int} {base:Nat} {w0 w w':ϖ} {ev:Nat->ϗ} {L:Nat->Bool} {o o':aT}
theorem eS.grow (h:eS T Lm base w0 ev L w o)(k:Below w w w')(hb:base<=w)(ho:∀x,x<w.heap.size->o' x=o x)(hl:∀x,x<base->o' x=.no):eS T Lm base w0 ev L w' o':=by
 refine⟨h.bel.trans (k.mono hb),hl,h.c0,λg=>?_,λg=>?_,λg=>?_,λg=>?_,λg=>?_,h.c7,h.c8,λg=>?_,h.c10,h.d6,h.d7,h.d8,h.d9,h.d10⟩
 ·obtain⟨a,b,h1,h2,h3,h4⟩:=h.c1 g;exact⟨a,b,h1,h2.below k,(ho _ h2.1.size).trans h3,(ho _ h2.2.1.size).trans h4⟩
 ·obtain⟨a,h1,h2,h3⟩:=h.c2 g;exact⟨a,h1,h2.below k,(ho _ h2.size).trans h3⟩
 ·obtain⟨a,b,h1,h2,h3⟩:=h.c3 g;exact ηN
 ·obtain⟨a,h1,h2,h3⟩:=h.c4 g;exact⟨a,h1,h2.below k,(ho _ h2.size).trans h3⟩
 ·obtain⟨a,b,h1,h2,h3⟩:=h.c5 g;exact ηN
 ·obtain⟨a,h1,h2,h3⟩:=h.c9 g;exact⟨a,h1,h2.below k h2.size,(ho _ h2.size).trans h3⟩
theorem eS.s0 (h:eS T Lm base w0 ev L w o)(hi:L 0=false)(v:ϗ)(new:v=φ #[ι ε T,ι ε Lm]):eS T Lm base w0 (λt=>if t=23 then v else ev t) (λk=>if k=0 then true else L k) w o where
 bel:=h.bel
 low:=h.low
 c0:=λ_=>by simpa using new
 c1:=λg=>ξW
 c2:=λg=>ξX
 c3:=λg=>ξY
 c4:=λg=>ξ9
 c5:=λg=>ξZ
 c7:=λg=>ηa
 c8:=λg=>ηD
 c9:=λg=>ηE
 c10:=λg=>ξ3
 d6:=λg=>ξF
 d7:=λg=>ξL
 d8:=λg=>ξM
 d9:=λg=>ξN
 d10:=λg=>ξH
theorem eS.s1 (h:eS T Lm base w0 ev L w o)(hi:L 1=false)(v:ϗ)(new:∃T' M',v=pt T'/\aF w T' M' []/\o T'=.tr/\o M'=.tr):eS T Lm base w0 (λt=>if t=24 then v else ev t) (λk=>if k=1 then true else L k) w o where
 bel:=h.bel
 low:=h.low
 c0:=λg=>ξ0
 c1:=λ_=>by simpa using new
 c2:=λg=>ξX
 c3:=λg=>ξY
 c4:=λg=>ξ9
 c5:=λg=>ξZ
 c7:=λg=>ηa
 c8:=λg=>ηs
 c9:=λg=>ηt
 c10:=λg=>ξ3
 d6:=λg=>ξF
 d7:=λg=>ξL
 d8:=λg=>ξM
 d9:=λg=>ξN
 d10:=λg=>ξH
theorem eS.s2 (h:eS T Lm base w0 ev L w o)(hi:L 2=false)(v:ϗ)(new:∃B,v=.map (some B)/\aA w B []/\o B=.by_):eS T Lm base w0 (λt=>if t=25 then v else ev t) (λk=>if k=2 then true else L k) w o where
 bel:=h.bel
 low:=h.low
 c0:=λg=>ξ0
 c1:=λg=>ξW
 c2:=λ_=>by simpa using new
 c3:=λg=>ξY
 c4:=λg=>ξ9
 c5:=λg=>ξZ
 c7:=λg=>ηa
 c8:=λg=>ηs
 c9:=λg=>ηt
 c10:=λg=>ξ3
 d6:=λg=>ξF
 d7:=λg=>ξL
 d8:=λg=>ξM
 d9:=λg=>ξN
 d10:=λg=>ξH
theorem eS.s3 (h:eS T Lm base w0 ev L w o)(hi:L 3=false)(v:ϗ)(new:∃B fp,v=pt B/\aQ 209 w B (λ_=>none) fp/\∀x,fp x->o x=.lv):eS T Lm base w0 (λt=>if t=26 then v else ev t) (λk=>if k=3 then true else L k) w o where
 bel:=h.bel
 low:=h.low
 c0:=λg=>ξ0
 c1:=λg=>ξW
 c2:=λg=>ξX
 c3:=λ_=>by simpa using new
 c4:=λg=>ξ9
 c5:=λg=>ξZ
 c7:=λg=>ηa
 c8:=λg=>ηs
 c9:=λg=>ηt
 c10:=λg=>ξ3
 d6:=λg=>ξF
 d7:=λg=>ξL
 d8:=λg=>ξM
 d9:=λg=>ξN
 d10:=λg=>ξH
theorem eS.s4 (h:eS T Lm base w0 ev L w o)(hi:L 4=false)(h6:L 6=false)(v:ϗ)(new:∃B,v=.map (some B)/\aA w B []/\o B=.km):eS T Lm base w0 (λt=>if t=27 then v else ev t) (λk=>if k=4 then true else L k) w o where
 bel:=h.bel
 low:=h.low
 c0:=λg=>ξ0
 c1:=λg=>ξW
 c2:=λg=>ξX
 c3:=λg=>ξY
 c4:=λ_=>by simpa [h6] using new
 c5:=λg=>ξZ
 c7:=λg=>by exfalso;have g:L 7=true:=ρg;have:=h.d7 g;simp[hi] at this
 c8:=λg=>ηs
 c9:=λg=>ηt
 c10:=λg=>ξ3
 d6:=λg=>ξF
 d7:=λg=>ξL
 d8:=λg=>ξM
 d9:=λg=>ξN
 d10:=λg=>ξH
theorem eS.s5 (h:eS T Lm base w0 ev L w o)(hi:L 5=false)(h6:L 6=false)(v:ϗ)(new:∃B fp,v=pt B/\aQ 211 w B (λ_=>none) fp/\∀x,fp x->o x=.kd 0):eS T Lm base w0 (λt=>if t=28 then v else ev t) (λk=>if k=5 then true else L k) w o where
 bel:=h.bel
 low:=h.low
 c0:=λg=>ξ0
 c1:=λg=>ξW
 c2:=λg=>ξX
 c3:=λg=>ξY
 c4:=λg=>by have g:L 4=true:=ρg;have:=h.c4 g;simpa [h6] using this
 c5:=λ_=>by simpa using new
 c7:=λg=>ηa
 c8:=λg=>ηD
 c9:=λg=>ηE
 c10:=λg=>ξ3
 d6:=λg=>ξF
 d7:=λg=>ξL
 d8:=λg=>ξM
 d9:=λg=>ξN
 d10:=λg=>ξH
theorem eS.s7 (h:eS T Lm base w0 ev L w o)(hi:L 7=false)(v:ϗ)(dd:L 4=true)(new:v=ev 27):eS T Lm base w0 (λt=>if t=29 then v else ev t) (λk=>if k=7 then true else L k) w o where
 bel:=h.bel
 low:=h.low
 c0:=λg=>ξ0
 c1:=λg=>ξW
 c2:=λg=>ξX
 c3:=λg=>ξY
 c4:=λg=>ξ9
 c5:=λg=>ξZ
 c7:=λ_=>by simpa using new
 c8:=λg=>ηD
 c9:=λg=>ηE
 c10:=λg=>ξ3
 d6:=λg=>ξF
 d7:=λ_=>by simpa using dd
 d8:=λg=>ξM
 d9:=λg=>ξN
 d10:=λg=>ξH
theorem eS.s8 (h:eS T Lm base w0 ev L w o)(hi:L 8=false)(v:ϗ)(dd:L 0=true/\L 1=true/\L 2=true/\L 3=true/\L 4=true/\L 7=true)(new:v=φ #[ι ε T,ι ε Lm,ev 24,ev 25,Kp,ev 26,ev 27,Ky,Ky]):eS T Lm base w0 (λt=>if t=30 then v else ev t) (λk=>if k=8 then true else L k) w o where
 bel:=h.bel
 low:=h.low
 c0:=λg=>ξ0
 c1:=λg=>ξW
 c2:=λg=>ξX
 c3:=λg=>ξY
 c4:=λg=>ξ9
 c5:=λg=>ξZ
 c7:=λg=>ηa
 c8:=λ_=>by simpa using new
 c9:=λg=>ηE
 c10:=λg=>ξ3
 d6:=λg=>ξF
 d7:=λg=>ξL
 d8:=λ_=>by simpa using dd
 d9:=λg=>ξN
 d10:=λg=>ξH
theorem eS.s9 (h:eS T Lm base w0 ev L w o)(hi:L 9=false)(v:ϗ)(dd:L 0=true/\L 1=true/\L 2=true/\L 3=true/\L 4=true/\L 7=true/\L 8=true)(new:∃B,v=pt B/\ah w B #[ι ε T,ι ε Lm,ev 24,ev 25,Kp,ev 26,ev 27,Ky,Ky] 155/\o B=.sy):eS T Lm base w0 (λt=>if t=31 then v else ev t) (λk=>if k=9 then true else L k) w o where
 bel:=h.bel
 low:=h.low
 c0:=λg=>ξ0
 c1:=λg=>ξW
 c2:=λg=>ξX
 c3:=λg=>ξY
 c4:=λg=>ξ9
 c5:=λg=>ξZ
 c7:=λg=>ηa
 c8:=λg=>ηD
 c9:=λ_=>by simpa using new
 c10:=λg=>by exfalso;have g:L 10=true:=ρg;have:=h.d10 g;simp[hi] at this
 d6:=λg=>ξF
 d7:=λg=>ξL
 d8:=λg=>ξM
 d9:=λ_=>by simpa using dd
 d10:=λg=>ξH
theorem eS.s10 (h:eS T Lm base w0 ev L w o)(hi:L 10=false)(v:ϗ)(dd:L 9=true)(new:v=ev 31):eS T Lm base w0 (λt=>if t=4 then v else ev t) (λk=>if k=10 then true else L k) w o where
 bel:=h.bel
 low:=h.low
 c0:=λg=>ξ0
 c1:=λg=>ξW
 c2:=λg=>ξX
 c3:=λg=>ξY
 c4:=λg=>ξ9
 c5:=λg=>ξZ
 c7:=λg=>ηa
 c8:=λg=>ηD
 c9:=λg=>ηE
 c10:=λ_=>by simpa using new
 d6:=λg=>ξF
 d7:=λg=>ξL
 d8:=λg=>ξM
 d9:=λg=>ξN
 d10:=λ_=>by simpa using dd
end
theorem eS.s6 {T Lm:Int} {base:Nat} {w0 w w':ϖ} {ev:Nat->ϗ} {L:Nat->Bool} {o:aT} (h:eS T Lm base w0 ev L w o)(h4:L 4=true)(h6:L 6=false) {B:Nat} (e:ev 27=.map (some B))(m:aA w' B [(0,ev 28)])(k:KO (λx=>x=B) w w')(oB:o B=.km)(hb:base<=w)(h5:L 5=true):eS T Lm base w0 ev (λk=>if k=6 then true else L k) w' o where
 bel:=h.bel.trans (k.below hb (λx hx e=>by rw[<- e] at oB;rw[h.low x hx] at oB;cases oB))
 low:=h.low
 c0:=λg=>h.c0 ρg
 c1:=λg=>by obtain⟨a,b,h1,h2,h3,h4⟩:=h.c1 ρg;exact⟨a,b,h1,h2.ko k (λe=>by rw[<- e,h3] at oB;cases oB) (λe=>by rw[<- e,h4] at oB;cases oB),h3,h4⟩
 c2:=λg=>by obtain⟨a,h1,h2,h3⟩:=h.c2 ρg;exact⟨a,h1,h2.ko k (λe=>by rw[<- e,h3] at oB;cases oB),h3⟩
 c3:=λg=>by obtain⟨a,b,h1,h2,h3⟩:=h.c3 ρg;exact⟨a,b,h1,h2.ko k (λx hx e=>by have:=h3 x hx;rw[e,oB] at this;cases this),h3⟩
 c4:=λ_=>⟨B,e,by simpa using m,oB⟩
 c5:=λg=>by obtain⟨a,b,h1,h2,h3⟩:=h.c5 ρg;exact⟨a,b,h1,h2.ko k (λx hx e=>by have:=h3 x hx;rw[e,oB] at this;cases this),h3⟩
 c7:=λg=>h.c7 ρg
 c8:=λg=>h.c8 ρg
 c9:=λg=>by obtain⟨a,h1,h2,h3⟩:=h.c9 ρg;exact⟨a,h1,h2.ko k (λe=>by rw[<- e,h3] at oB;cases oB),h3⟩
 c10:=λg=>h.c10 ρg
 d6:=λg=>by simp[h4,h5]
 d7:=λg=>by have:=h.d7 ρg;simp[this]
 d8:=λg=>by have:=h.d8 ρg;simp[this]
 d9:=λg=>by have:=h.d9 ρg;simp[this]
 d10:=λg=>by have:=h.d10 ρg;simp[this]
def GW (T Lm:Int)(base:Nat)(w0:ϖ)(L:Array Bool)(a:Act)(w:ϖ):Prop:=a.tmps.size=41/\a.defers=[]/\a.eval (.tmp 1)=pt base/\base<w/\ah w base #[ι ε T,ι ε Lm] 23/\L.size=11/\∃o,eS T Lm (base+1) w0 (λt=>a.eval (.tmp t)) (λk=>L.getD k false) w o
theorem Ed (T Lm:Int)(w:ϖ)(hT:1<=T/\T<=65536)(hL:1<=Lm/\Lm<=16384):Calls Ψ 48 #[φ #[ι ε T,ι ε Lm]] w λe w'=>∃o a,e=ϰ (χ #[a.S,Kz])/\ar o w' a (fw T Lm [])/\(∀x,x<w.heap.size->o x=.no)/\Below w w w':=by
 have d1:=df (T<1);have d2:=df (65536<T);have d3:=df (Lm<1);have d4:=df (16384<Lm);have PG:=@run_makeMap Ψ;go_in;go_upto_region 3 with (fail);refine mI (λL a v=>GW T Lm w (w.alloc (.cells #[ι ε T,ι ε Lm] 23)) L a v) ρh ρh ?_ ?_ ?_
 ·refine⟨rfl,rfl,rfl,by simp,ah.drew (ah.alloc_new _ _ _ ρp),by simp,λ_=>.no,?_⟩;refine⟨Below.drew (Below.refl _ _),λ_ _=>rfl,?_,?_,?_,?_,?_,?_,?_,?_,?_,?_,?_,?_,?_,?_,?_⟩<;>(intro g;rw[lx] at g;cases g)
 ·intro i o ho L a v hz hJ LX hd;obtain⟨Kw,RH,e1,Z',C,RE,ow,J⟩:=hJ;have LA:∀d x,d<41->(λt=>(a.put (some d) x).eval (.tmp t))=λt=>if t=d then x else a.eval (.tmp t):=λd x h=>funext (pF (by rw[Kw];exact h));have Qg:∀i,i<11->(λk=>(L.setIfInBounds i true).getD k false)=λk=>if k=i then true else L.getD k false:=λi h=>funext λk=>by by_cases e:k=i;(· subst e;rw[ZP rfl];exact iQ (by rw[RE];exact h));(· rw[ZI e];exact getD_set_ne false (Ne.symm e))
  have Of:∀d x,d<41->d≠1->(a.put (some d) x).eval (.tmp 1)=pt w:=λd x h h1=>by rw[pF (by rw[Kw];exact h),ZI (Ne.symm h1)];exact e1
  have Nb:∀(n:Nat) (t:TG) x,w<n->x<w.heap.size+1->ow.more n t x=.no:=λn t x hn hx=>by rw[aT.more_lt ρa];exact J.low x hx
  match i,ho,LX,hd with
  | 0,ho,LX,hd=>
   cases (show some _=some o from ho)
   refine⟨λ_=>?_,λhw=>ax hw σM⟩;refine wp_load_mid 23 (.tmp 1) rfl w 0 e1 [ι ε T,ι ε Lm] _ (λj x hj=>by rw[C.cell,Nat.zero_add];simpa using hj) Tryz.underlying23 rfl ρh ?_;exact⟨by simp[Act.put,Kw],RH,Of 23 _ ρf ρf,by omega,C,by simp[RE],ow,by rw[LA 23 _ ρf,Qg 0 ρf];exact eS.s0 J LX _ rfl⟩
  | 1,ho,LX,hd=>
   cases (show some _=some o from ho)
   refine⟨λ_=>?_,λhw=>ax hw σM⟩;refine mr (f:=69) (args:=#[]) τU ?_;refine(F5 _).mono ?_;rintro e v2 ⟨T',M',rfl,Tm,Rk,zM',kx⟩;refine⟨_,rfl,?_⟩;exact⟨by simp[Act.put,Kw],RH,Of 24 _ ρf ρf,by have:=kx.size;omega,C.below kx C.size,by simp[RE],ow.more v .tr,by rw[LA 24 _ ρf,Qg 1 ρf];exact eS.s1 (J.grow kx ρa (λx hx=>aT.more_lt hx) (λx hx=>Nb _ _ x Z' hx)) LX _ ⟨T',M',rfl,Tm,aT.more_ge Rk,aT.more_ge zM'⟩⟩
  | 2,ho,LX,hd=>
   cases (show some _=some o from ho)
   refine⟨λ_=>?_,λhw=>ax hw σM⟩;refine gt (v:=.map (some v)) (w':=v.alloc (.map #[] 0)) τU ?_;exact⟨by simp[Act.put,Kw],RH,Of 25 _ ρf ρf,by simp;omega,(C.below ρE C.size),by simp[RE],ow.more v .by_,by rw[LA 25 _ ρf,Qg 2 ρf];exact eS.s2 (J.grow ρE ρa (λx hx=>aT.more_lt hx) (λx hx=>Nb _ _ x Z' hx)) LX _ ⟨_,rfl,aA.made v,aT.more_ge (ZR _)⟩⟩
  | 3,ho,LX,hd=>
   cases (show some _=some o from ho)
   refine⟨λ_=>?_,λhw=>ax hw σM⟩;refine mr (f:=70) (args:=#[]) τU ?_;refine(Fk _).mono ?_;rintro e v2 ⟨B,rfl,⟨fp,hB,MZ⟩,kx⟩;refine⟨_,rfl,?_⟩;exact⟨by simp[Act.put,Kw],RH,Of 26 _ ρf ρf,by have:=kx.size;omega,C.below kx C.size,by simp[RE],ow.more v .lv,by rw[LA 26 _ ρf,Qg 3 ρf];exact eS.s3 (J.grow kx ρa (λx hx=>aT.more_lt hx) (λx hx=>Nb _ _ x Z' hx)) LX _ ⟨B,fp,rfl,hB,λx hx=>aT.more_ge (MZ x hx)⟩⟩
  | 4,ho,LX,hd=>
   cases (show some _=some o from ho)
   refine⟨λ_=>?_,λhw=>ax hw σM⟩;have H6:L.getD 6 false=false:=κy;refine gt (v:=.map (some v)) (w':=v.alloc (.map #[] 0)) τU ?_;exact⟨by simp[Act.put,Kw],RH,Of 27 _ ρf ρf,by simp;omega,(C.below ρE C.size),by simp[RE],ow.more v .km,by rw[LA 27 _ ρf,Qg 4 ρf];exact eS.s4 (J.grow ρE ρa (λx hx=>aT.more_lt hx) (λx hx=>Nb _ _ x Z' hx)) LX H6 _ ⟨_,rfl,aA.made v,aT.more_ge (ZR _)⟩⟩
  | 5,ho,LX,hd=>
   cases (show some _=some o from ho)
   refine⟨λ_=>?_,λhw=>ax hw σM⟩;have H6:L.getD 6 false=false:=κy;refine mr (f:=71) (args:=#[]) τU ?_;refine(BK _).mono ?_;rintro e v2 ⟨B,rfl,⟨fp,hB,MZ⟩,kx⟩;refine⟨_,rfl,?_⟩;exact⟨by simp[Act.put,Kw],RH,Of 28 _ ρf ρf,by have:=kx.size;omega,C.below kx C.size,by simp[RE],ow.more v (.kd 0),by rw[LA 28 _ ρf,Qg 5 ρf];exact eS.s5 (J.grow kx ρa (λx hx=>aT.more_lt hx) (λx hx=>Nb _ _ x Z' hx)) LX H6 _ ⟨B,fp,rfl,hB,λx hx=>aT.more_ge (MZ x hx)⟩⟩
  | 6,ho,LX,hd=>
   cases (show some _=some o from ho)
   refine⟨λ_=>?_,λhw=>ax hw σM⟩;have l4:=hd 4 (List.elem_iff.1 ρh);have l5:=hd 5 (List.elem_iff.1 ρh);obtain⟨B,Nj,hB,oB⟩:=J.c4 l4;obtain⟨V,fp,XC,-,-⟩:=J.c5 l5;replace Nj:a.eval (.tmp 27)=_:=Nj;replace XC:a.eval (.tmp 28)=_:=XC;simp only[LX] at hB;rw[ZI ρp] at hB;obtain⟨v2,Js,M2,kx,zx⟩:=bz Γ Θ hB 0 (pt V);have f27:=(de a 27).trans Nj;have f28:=(de a 28).trans XC;refine Bm (w':=v2) (by simp only[execOp,f27,f28,Nj,XC];go_simp) ?_;show GW _ _ _ _ _ a _;exact⟨Kw,RH,e1,by omega,C.ko kx (λh=>by rw[<- h,J.low _ ρa] at oB;cases oB),by simp[RE],ow,by rw[Qg 6 ρf];exact eS.s6 J l4 LX Nj (by rw[XC];exact M2) kx oB ρa l5⟩
  | 7,ho,LX,hd=>
   cases (show some _=some o from ho)
   refine⟨λ_=>?_,λhw=>ax hw σM⟩;have l4:=hd 4 (List.elem_iff.1 ρh);obtain⟨B,Nj,-,-⟩:=J.c4 l4;replace Nj:a.eval (.tmp 27)=_:=Nj;have f27:=(de a 27).trans Nj;refine gt (v:=.map (some B)) (w':=v) (by clear Kw;simp only[execOp,Nj,f27];go_simp) ?_;exact⟨by simp[Act.put,Kw],RH,Of 29 _ ρf ρf,by omega,C,by simp[RE],ow,by rw[LA 29 _ ρf,Qg 7 ρf];exact eS.s7 J LX _ l4 Nj.symm⟩
  | 8,ho,LX,hd=>
   cases (show some _=some o from ho)
   refine⟨λ_=>?_,λhw=>ax hw σM⟩;have l0:=hd 0 (List.elem_iff.1 ρh);have l1:=hd 1 (List.elem_iff.1 ρh);have l2:=hd 2 (List.elem_iff.1 ρh);have l3:=hd 3 (List.elem_iff.1 ρh);have l7:=hd 7 (List.elem_iff.1 ρh);have l4:=J.d7 l7;have e23:=J.c0 l0;obtain⟨x1,_,Se,-⟩:=J.c1 l1;obtain⟨x2,Sf,-⟩:=J.c2 l2;obtain⟨x3,_,Sg,-⟩:=J.c3 l3;obtain⟨x4,Nj,-⟩:=J.c4 l4;have e29:=(J.c7 l7).trans Nj;replace e23:a.eval (.tmp 23)=_:=e23;replace Se:a.eval (.tmp 24)=_:=Se;replace Sf:a.eval (.tmp 25)=_:=Sf;replace Sg:a.eval (.tmp 26)=_:=Sg;replace Nj:a.eval (.tmp 27)=_:=Nj;replace e29:a.eval (.tmp 29)=_:=e29;have f23:=(de a 23).trans e23;have f24:=(de a 24).trans Se;have f25:=(de a 25).trans Sf;have f26:=(de a 26).trans Sg;have f29:=(de a 29).trans e29;refine gt (v:=φ #[ι ε T,ι ε Lm,pt x1,.map (some x2),Kp,pt x3,.map (some x4),Ky,Ky]) (w':=v) (by clear Kw;simp only[execOp,e23,Se,Sf,Sg,e29,f23,f24,f25,f26,f29];go_simp) ?_;exact⟨by simp[Act.put,Kw],RH,Of 30 _ ρf ρf,by omega,C,by simp[RE],ow,by rw[LA 30 _ ρf,Qg 8 ρf];exact eS.s8 J LX _ ⟨l0,l1,l2,l3,l4,l7⟩ (by rw[Se,Sf,Sg,Nj])⟩
  | 9,ho,LX,hd=>
   cases (show some _=some o from ho)
   refine⟨λ_=>?_,λhw=>ax hw σM⟩;have l8:=hd 8 (List.elem_iff.1 ρh);have dd:=J.d8 l8;have e30:=J.c8 l8;obtain⟨x1,_,Se,-⟩:=J.c1 dd.2.1;obtain⟨x2,Sf,-⟩:=J.c2 dd.2.2.1;obtain⟨x3,_,Sg,-⟩:=J.c3 dd.2.2.2.1;obtain⟨x4,Nj,-⟩:=J.c4 dd.2.2.2.2.1;rw[Se,Sf,Sg,Nj] at e30;replace Se:a.eval (.tmp 24)=_:=Se;replace Sf:a.eval (.tmp 25)=_:=Sf;replace Sg:a.eval (.tmp 26)=_:=Sg;replace Nj:a.eval (.tmp 27)=_:=Nj;replace e30:a.eval (.tmp 30)=_:=e30;refine gt (v:=pt v) (w':=v.alloc (.cells #[ι ε T,ι ε Lm,pt x1,.map (some x2),Kp,pt x3,.map (some x4),Ky,Ky] 155)) (by have f30:=(de a 30).trans e30;simp only[execOp,e30,f30];go_simp) ?_;exact⟨by simp[Act.put,Kw],RH,Of 31 _ ρf ρf,by simp;omega,(C.below ρE C.size),by simp[RE],ow.more v .sy,by rw[LA 31 _ ρf,Qg 9 ρf];exact eS.s9 (J.grow ρE ρa (λx hx=>aT.more_lt hx) (λx hx=>Nb _ _ x Z' hx)) LX _ ⟨dd.1,dd.2.1,dd.2.2.1,dd.2.2.2.1,dd.2.2.2.2.1,dd.2.2.2.2.2,l8⟩ ⟨_,rfl,by rw[Se,Sf,Sg,Nj];exact ah.alloc_new _ _ _ ρp,aT.more_ge (ZR _)⟩⟩
  | 10,ho,LX,hd=>
   cases (show some _=some o from ho)
   refine⟨λ_=>?_,λhw=>ax hw σM⟩;have l9:=hd 9 (List.elem_iff.1 ρh);obtain⟨S,XD,-,-⟩:=J.c9 l9;replace XD:a.eval (.tmp 31)=_:=XD;have f31:=(de a 31).trans XD;refine gt (v:=pt S) (w':=v) (by clear Kw;simp only[execOp,XD,f31];go_simp) ?_;exact⟨by simp[Act.put,Kw],RH,Of 4 _ ρf ρf,by omega,C,by simp[RE],ow,by rw[LA 4 _ ρf,Qg 10 ρf];exact eS.s10 J LX _ l9 XD.symm⟩
  | n+11,ho,_,_=>exact ax ho ρp
 ·intro L a v hz hJ Jg;obtain⟨Kw,RH,e1,Z',C,RE,ow,J⟩:=hJ;have l0:L.getD 0 false=true:=Jg 0 ρp;have l1:L.getD 1 false=true:=Jg 1 ρp;have l2:L.getD 2 false=true:=Jg 2 ρp;have l3:L.getD 3 false=true:=Jg 3 ρp;have l4:L.getD 4 false=true:=Jg 4 ρp;have l5:L.getD 5 false=true:=Jg 5 ρp;have l6:L.getD 6 false=true:=Jg 6 ρp;have l7:L.getD 7 false=true:=Jg 7 ρp;have l8:L.getD 8 false=true:=Jg 8 ρp;have l9:L.getD 9 false=true:=Jg 9 ρp;have Gd:L.getD 10 false=true:=Jg 10 ρp;obtain⟨T',M',Se,Tm,oT,oM⟩:=J.c1 l1;obtain⟨BY,Sf,hBY,SH⟩:=J.c2 l2;obtain⟨LV,fpe,Sg,hLV,hfe⟩:=J.c3 l3;obtain⟨KM,Nj,hKM,SJ⟩:=J.c4 l4;simp only[l6,if_true] at hKM;obtain⟨V,Sj,XC,hV,Pm⟩:=J.c5 l5;obtain⟨S,XD,hS,oS⟩:=J.c9 l9;have e4:=(J.c10 Gd).trans XD;rw[Se,Sf,Sg,Nj] at hS;rw[XC] at hKM;replace e4:a.eval (.tmp 4)=_:=e4;have ZX:=J.bel;have Nb:=J.low;rw[uM a 41 Kw,RH];simp only[List.range,List.range.loop,gY,List.map_nil,e4];clear J l0 l1 l2 l3 l4 l5 l6 l7 l8 l9 Gd Se Sf Sg Nj XC XD e4 e1 Jg hz RE RH Kw;generalize a.eval (.tmp 0)=u0;generalize a.eval (.tmp 1)=u1;generalize a.eval (.tmp 2)=u2;generalize a.eval (.tmp 3)=u3;generalize a.eval (.tmp 5)=u5;generalize a.eval (.tmp 6)=u6;generalize a.eval (.tmp 7)=u7;generalize a.eval (.tmp 8)=u8;generalize a.eval (.tmp 9)=u9;generalize a.eval (.tmp 10)=u10;generalize a.eval (.tmp 11)=u11;generalize a.eval (.tmp 12)=u12;generalize a.eval (.tmp 13)=u13;generalize a.eval (.tmp 14)=u14;generalize a.eval (.tmp 15)=u15;generalize a.eval (.tmp 16)=u16;generalize a.eval (.tmp 17)=u17;generalize a.eval (.tmp 18)=u18;generalize a.eval (.tmp 19)=u19;generalize a.eval (.tmp 20)=u20;generalize a.eval (.tmp 21)=u21;generalize a.eval (.tmp 22)=u22;generalize a.eval (.tmp 23)=u23;generalize a.eval (.tmp 24)=u24;generalize a.eval (.tmp 25)=u25;generalize a.eval (.tmp 26)=u26;generalize a.eval (.tmp 27)=u27;generalize a.eval (.tmp 28)=u28;generalize a.eval (.tmp 29)=u29;generalize a.eval (.tmp 30)=u30;generalize a.eval (.tmp 31)=u31;generalize a.eval (.tmp 32)=u32;generalize a.eval (.tmp 33)=u33;generalize a.eval (.tmp 34)=u34;generalize a.eval (.tmp 35)=u35;generalize a.eval (.tmp 36)=u36;generalize a.eval (.tmp 37)=u37;generalize a.eval (.tmp 38)=u38;generalize a.eval (.tmp 39)=u39;generalize a.eval (.tmp 40)=u40;clear a L;have Rr:=hS.r;go_simp;go_wp2_with fail;have IJ:w.heap.size+1<=v:=ρa;refine(wh T' M' [] v Tm ρp).mono ?_;rintro e v2 ⟨rfl,hA,kx⟩;have z2:=kx.size;obtain⟨hS2,hT2,N0⟩:=Mw kx (θ3 hS Tm hBY);have Wc:=hV.ko (KO.of_below (F:=λ_=>False) kx) (λ_ _ f=>f);have Lh:=hLV.ko (KO.of_below (F:=λ_=>False) kx) (λ_ _ f=>f);have Uh:=hKM.below kx;replace Rr:=hS2.r;obtain⟨o3,Wt⟩:∃o3:aT,o3=(λx=>if x<v.heap.size then ow x else if x=v+3 then .ac else if x=v then .ab else if x=v+1 then .ao else .ak):=⟨_,rfl⟩;have oo:∀x,x<v.heap.size->o3 x=ow x:=λx hx=>by rw[Wt];exact ZP hx
  have A2:=hA o3 κq (by rw[Wt];simp) κq κq;have nS:=hS.size;have nT:=Tm.1.size;have nM:=Tm.2.1.size;have nB:=hBY.size;have nK:=hKM.size;have nL:∀x,fpe x->x<v.heap.size:=λx hx=>hLV.lt hx;have nV:∀x,Sj x->x<v.heap.size:=λx hx=>hV.lt hx;have kb:=kx;clear hS Tm hBY hLV hKM hV hA kx;go_wp2_with fail;have Ol:=(oo S nS).trans oS;have oT3:=(oo T' nT).trans oT;have oM3:=(oo M' nM).trans oM;have Pu:=(oo BY nB).trans SH;have Ty:=(oo KM nK).trans SJ;have oL3:∀x,fpe x->o3 x=.lv:=λx hx=>(oo x (by have:=Lh.lt hx;exact nL x hx)).trans (hfe x hx);have oV3:∀x,Sj x->o3 x=.kd 0:=λx hx=>(oo x (nV x hx)).trans (Pm x hx);refine dW v2 (λv=>KO (λx=>x=S) v2 v) (λv3=>KO (λx=>x=S) v2 v3/\ah v3 S #[ι ε T,ι ε Lm,pt T',.map (some BY),pt (v+3),pt LV,.map (some KM),Ky,Ky] 155) ρK (λkx=>⟨kx,ρB⟩) ?_;rintro v3 ⟨kx,S3⟩;refine ZO (v:=χ #[pt S,Kz]) (by simp[results,Tryz.results48,go_sem]) rfl ⟨o3,⟨S,T',M',BY,v.heap.size+3,v,v.heap.size+1,v.heap.size+2,LV,KM,[],[(0,pt V)]⟩,rfl,⟨S3,?_,?_,⟨λ_=>0,λ_=>ψ none,λi=>rfl⟩,?_,⟨fpe,?_,oL3⟩,?_,⟨λ_=>V,λp hp=>?_⟩,Ol,oT3,oM3,Pu,Ty⟩,λx hx=>?_,?_⟩
  ·exact hT2.ko kx (λe=>by rw[e,Ol] at oT3;cases oT3) (λe=>by rw[e,Ol] at oM3;cases oM3)
  ·exact N0.ko kx (λe=>by rw[e,Ol] at Pu;cases Pu)
  ·exact A2.ko kx (λx hx e=>by rw[e,Ol] at hx;simp[TG.act] at hx)
  ·exact Lh.ko kx (λx hx e=>by have:=oL3 x hx;rw[e,Ol] at this;cases this)
  ·exact Uh.ko kx (λe=>by rw[e,Ol] at Ty;cases Ty)
  ·have h0:p=0:=by unfold bV fw at hp;simpa [fc] using hp
   subst h0;exact⟨rfl,λ_=>⟨Sj,Wc.ko kx (λx hx e=>by have:=oV3 x hx;rw[e,Ol] at this;cases this),oV3⟩⟩
  ·rw[oo x ρa];exact Nb x ρa
  ·have b2:Below w w v:=Below.trans (Below.alloc (Below.refl _ _) (ZR _) _) (ZX.mono ρa);have b3:Below w v v3:=(KO.of_below (F:=λx=>x=S) kb).trans kx (λ_ _ h=>h) |>.below ρa (λx hx e=>by rw[e] at hx;have:=Nb S ρa;rw[oS] at this;cases this);exact b2.trans b3
end Go.Proofs.YtfdlemkplejdnaaGreat
