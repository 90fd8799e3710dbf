/- WholeDelay, part 28. Conditions: none. -/
import Derived.Test.YtfdlemkplejdnaaGreatA24
namespace Go.Proofs.YtfdlemkplejdnaaGreat
open Go.RowKit Go.Sort
open Value renaming int->ι,pointer->ψ,slice->ζ,tuple->χ,agg->φ,map->μ,bool->β
open IntKind renaming u64->υ,i64->ε,u16->ω
open Ending renaming returned->ϰ
open Go.Proofs.Tryz renaming prog->Ψ,underlying3->Θ,underlying147->Δ,underlying152->Γ,underlying202->Φ,underlying39->Ξ,underlying207->Ω
open Go renaming World->ϖ,Value->ϗ
set_option linter.unusedVariables false
set_option linter.unusedSimpArgs false
set_option maxHeartbeats 8000000
set_option maxRecDepth 100000
theorem uC {L:List CD} {i:Int} {c:CD} (h:fc L i=some c):i ∈ aM (λ_=>true) L:=by unfold aM;rw[List.mem_mergeSort,List.mem_map];exact⟨c,by simp[(aL h).1],(aL h).2⟩
theorem xm (T M:Nat)(L:List CD)(w:ϖ)(H:aF w T M L)(hL:L.length<=1000):Calls Ψ 72 #[T] w λe w'=>e=ϰ (ψ (some ⟨w+3,0,none⟩))/\(∀o:aV,o (w+3)=.ac->o w.heap.size=.ab->o (w+1)=.ao->o (w+2)=.ak->cJ o w' (w+3) w (w+1) (w+2) L ⟨λ_=>false,λ_=>[]⟩)/\Below w w w':=by
 have Nx:=gw H;obtain⟨ys,Ke⟩:=Nq (aM (λ_=>true) L);have QB:ys.length<=1000:=σI;have Up:∀y ∈ ys,∃c,fc L y=some c:=by rw[<- Ke];exact λy hy=>iu hy
 have YF:ys.Nodup:=by rw[<- Ke];exact(ja (p:=λ_=>true) Nx).imp (λh=>by omega)
 have hya:∀i c,fc L i=some c->i ∈ ys:=by rw[<- Ke];exact λi c h=>uC h
 have Kf:=H.2.2;have Uk:=@run_makeMap Ψ;have zT:=H.1.size;have zM:=H.2.1.size;go_in;go_upto_region 2 with (fail);refine aW w (λv=>KO (λ_=>False) w v) (λv=>KO (λ_=>False) w v/\ah v (w+3) #[.map (some w),.map (some (w+1)),.map (some (w+2))] 216/\aB v w []/\aB v (w+1) []/\aB v (w+2) []) ρK (λkx=>⟨kx,ρB,?_,?_,?_⟩) ?_
 ·exact(((aB.made w).alloc _).alloc _).alloc _
 ·have:=((aB.made (w.alloc (.map #[] 0))).alloc (.map #[] 0)).alloc (.cells #[.map (some w),.map (some (w+1)),.map (some (w+2))] 216);simpa using this
 ·have:=(aB.made ((w.alloc (.map #[] 0)).alloc (.map #[] 0))).alloc (.cells #[.map (some w),.map (some (w+1)),.map (some (w+2))] 216);simpa using this
 rintro va ⟨kx,Lj,Pj,Zf,Ux⟩;have z1:=Lj.size;have H1:=H.below kx.toBelow;have I':KO (λ_=>False) w va:=kx;clear kx Uk;go_wp2_with fail;refine(Dv T M L _ (H1.below ρE) hL).mono ?_;rintro e vb ⟨u,rfl,G2,k2⟩;rw[Ke] at G2;have LY:Below va va vb:=Below.trans ρE (k2.mono ρp);have k0b:=I'.step0 LY;have z2:=LY.size;obtain⟨H2,KX,PQ,Sg,Ri⟩:=Mw LY (θ5 H1 Lj Pj Zf Ux);have G2:=af.base_le G2 (b':=va.heap.size) ρp;obtain⟨ob,od,rfl⟩:=af.slice G2;clear k2 LY I' H1 Lj Pj Zf Ux;obtain⟨n,hn⟩:=Nq ys.length;rw[hn] at G2 QB ⊢;change Hid _ at hn Ke Nx;have zT2:=H2.1.size;have zM2:=H2.2.1.size;go_wp2_with fail;go_loopw [17] (λk wr=>∃(a b:List Int) (LB:List (Int × ϗ)),k=ι ε (a.length:Nat)/\ys=a++b/\(∀i,lk i LB=if i ∈ a then ep L i else none)/\HI wr va (ζ ob n od) ys/\aF wr T M L/\ah wr (w+3) #[.map (some w),.map (some (w+1)),.map (some (w+2))] 216/\aB wr w LB/\aB wr (w+1) []/\aB wr (w+2) []/\KO (λx=>x=w.heap.size) vb wr) (λk _=>n - (intOf k).toNat);case atStart=>exact⟨[],ys,[],rfl,rfl,λi=>by simp[lk],G2,H2,KX,PQ,Sg,Ri,KO.refl _ _⟩
 case round=>
  obtain⟨a,b,LB,rfl,JK,hLB,G0,T0,OL,Rf,VJ,TK,JG⟩:=hrel;have zw:=JG.size;clear G2 H2 KX PQ Sg Ri;have JO:a.length+b.length=n:=σR;obtain⟨q,hq⟩:=Nq a.length;rw[hq] at JO ⊢;cases b with
  | nil=>
   refine η4 ?_;intro JM hd;have ha:a=ys:=ρL;change Hid _ at JO hq JK ha;go_wp2;go_ret;refine⟨rfl,λo h1 h2 h3 h4=>⟨OL.below ρE OL.size,⟨LB,Rf.below ρE,λi=>?_⟩,⟨[],VJ.below ρE,λi=>rfl⟩,⟨[],TK.below ρE,λp=>.inl ⟨rfl,rfl⟩⟩,h1,h2,h3,h4⟩,((KO.trans k0b JG (F:=λ_=>False) (by intro x hx h;(try dsimp only at h);omega)).step0 ρE).toBelow⟩;rw[hLB i,ha.out];split
   ·rfl
   ·rename_i hi;unfold ep;cases hc:fc L i with
    | none=>rfl
    | some c=>exact az (hya i c hc) hi
  | cons x r=>
   refine η5 ?_;intro JM hd;have MS:ys[q]?=some x:=ρC;have JX:ys≠[]:=ρP;obtain⟨⟨id,par,lf,r0,r1,r2,l0,l1,l2,u0,u1,u2,pk,by_⟩,hc⟩:=Up x ρP;have QA:x ∉ a:=λh=>by rw[JK,List.nodup_append] at YF;exact YF.2.2 x h x ρp rfl
   have ok:0<=l0/\0<=l1/\0<=l2:=(Kf _ (aL hc).1).2.2.2.1;obtain⟨Us,NS,g0,e0,Kv,e1,_⟩:=af.at G0 (λ_=>rfl);have e1:=e1 JX;have e2:=(ZV e0).1;have e3:=(ZV e0).2.2;clear e0;subst e2;subst e3;subst e1;obtain⟨cx,gx,bx⟩:=HI.cell G0 q x MS;have My:q<n:=ρa;have Lc:ep L x=if de (kd l0 l1 l2) then some (φ #[ι ε par,ι ε (if lf then 1 else 0)]) else none:=by unfold ep;rw[hc];rfl
   obtain⟨s,hs⟩:=Nq (de (kd l0 l1 l2));rw[hs] at Lc;change Hid _ at JK hq Kv JO hc Lc hLB;have Rr:=OL.r;go_wp2_with fail;refine Zc (θ7 JG T0 G0 OL Rf VJ TK) ?_;rintro v1 ⟨I',T1,G1,Lj,Pj,Zf,Ux⟩;refine(xL T M L x _ _ T1 hc.out).mono ?_;rintro e v2 ⟨rfl,kx⟩;clear Rr;obtain⟨⟨T2,G2,KX,PQ,Sg,Ri,JE⟩,Rr⟩:=Mx kx (θ7 T1 G1 Lj Pj Zf Ux I');clear kx;go_upto_region 6 with (fail);refine jf (θ7 JE T2 G2 KX PQ Sg Ri) (λv=>ah v v2 (kR id par lf r0 r1 r2 l0 l1 l2 u0 u1 u2 pk by_) 43) ρB ?_;clear Rr;rintro v3 X3 ⟨JI,T3,G3,KK,Rg,UC,Uy⟩ Rr;have Ss:=X3.r;go_wp2_with fail;refine Zc (θ8 JI T3 G3 KK Rg UC Uy X3) ?_;rintro v4 ⟨JJ,T4,G4,Lq,A'4,O'4,C'4,X4⟩;refine(lb _ _ _ _ _ _ _ _ _ _ _ _ _ _ _ ok s hs).mono ?_;rintro e v5 ⟨rfl,kx⟩;clear Rr Ss;obtain⟨⟨T5,G5,LI,A'5,O'5,C'5,X5,JP⟩,Rr⟩:=Mx kx (θ8 T4 G4 Lq A'4 O'4 C'4 X4 JJ);clear kx;have zk:=JP.size;rcases s with _|_
   ·go_wp2;go_roundw;case rel=>exact⟨a++[x],r,LB,by rw[ZL,hq.out];go_num,by rw[JK.out];simp,λi=>by rw[hLB.out i];by_cases h1:i=x;(· subst h1;rw[ZI QA,Lc.out];simp);(· simp[h1]),af.below G5 ρE,T5.below ρE,LI.below ρE LI.size,A'5.below ρE,O'5.below ρE,C'5.below ρE,JP.step0 ρE⟩
    case measure=>exact ξc
   ·rcases lf with _|_
    ·go_upto_region 10 with (fail);refine jf (θ8 JP T5 G5 LI A'5 O'5 C'5 X5) (λv=>ah v v5 #[ι ε par,Kz] 219) ρB ?_;clear Rr;rintro v6 Y6 ⟨JT,T6,G6,O7,A'6,O'6,C'6,X6⟩ Rr;have Ss:=Y6.r;refine bK (θ9 JT T6 G6 O7 A'6 O'6 C'6 X6 Y6) ?_;clear Rr Ss;rintro v7 ⟨J7,T7,G7,Pk,A'7,O'7,C'7,X7,Y7⟩ Rr;have Nj:=ae Pk;have qX:=ae X7;have qY:=ae Y7;refine Ws 6 (gC ?_);refine bB (θ9 T7 G7 Pk A'7 O'7 C'7 X7 Y7 J7) ?_;clear Rr;rintro v8 ⟨T8,G8,QN,A'8,O'8,C'8,X8,Y8,Ka⟩ Rr;clear Nj qX qY T7 G7 Pk A'7 O'7 C'7 X7 Y7;obtain⟨v9,Kk,A'9,kx,zx⟩:=bv Tryz.underlying212 Θ A'8 x (φ #[ι ε par,Kz]);have Km:=Ka.trans kx σh;have zk9:=Km.size;have T9:=T8.ko kx ρj ρj;have G9:=af.ko G8 kx τr;have PR:=QN.ko kx ρj;have O'9:=O'8.ko kx ρj;have C'9:=C'8.ko kx ρj;clear kx zx;go_wp2;go_roundw;case rel=>exact⟨a++[x],r,dJ x (φ #[ι ε par,Kz]) LB,by rw[ZL,hq.out];go_num,by rw[JK.out];simp,λi=>by rw[fl,hLB.out i];by_cases h1:i=x;(· subst h1;rw[ZP rfl,Lc.out];simp[FH]);(· simp[h1]),af.below G9 ρE,T9.below ρE,PR.below ρE PR.size,A'9.below ρE,O'9.below ρE,C'9.below ρE,Km.step0 ρE⟩
     case measure=>exact ξc
    ·go_upto_region 10 with (fail);refine jf (θ8 JP T5 G5 LI A'5 O'5 C'5 X5) (λv=>ah v v5 #[ι ε par,Ko] 219) ρB ?_;clear Rr;rintro v6 Y6 ⟨JT,T6,G6,O7,A'6,O'6,C'6,X6⟩ Rr;have Ss:=Y6.r;refine bK (θ9 JT T6 G6 O7 A'6 O'6 C'6 X6 Y6) ?_;clear Rr Ss;rintro v7 ⟨J7,T7,G7,Pk,A'7,O'7,C'7,X7,Y7⟩ Rr;have Nj:=ae Pk;have qX:=ae X7;have qY:=ae Y7;refine Ws 6 (gC ?_);refine bB (θ9 T7 G7 Pk A'7 O'7 C'7 X7 Y7 J7) ?_;clear Rr;rintro v8 ⟨T8,G8,QN,A'8,O'8,C'8,X8,Y8,Ka⟩ Rr;clear Nj qX qY T7 G7 Pk A'7 O'7 C'7 X7 Y7;obtain⟨v9,Kk,A'9,kx,zx⟩:=bv Tryz.underlying212 Θ A'8 x (φ #[ι ε par,Ko]);have Km:=Ka.trans kx σh;have zk9:=Km.size;have T9:=T8.ko kx ρj ρj;have G9:=af.ko G8 kx τr;have PR:=QN.ko kx ρj;have O'9:=O'8.ko kx ρj;have C'9:=C'8.ko kx ρj;clear kx zx;go_wp2;go_roundw;case rel=>exact⟨a++[x],r,dJ x (φ #[ι ε par,Ko]) LB,by rw[ZL,hq.out];go_num,by rw[JK.out];simp,λi=>by rw[fl,hLB.out i];by_cases h1:i=x;(· subst h1;rw[ZP rfl,Lc.out];simp[FH]);(· simp[h1]),af.below G9 ρE,T9.below ρE,PR.below ρE PR.size,A'9.below ρE,O'9.below ρE,C'9.below ρE,Km.step0 ρE⟩
     case measure=>exact ξc
def fU (T Lm:Int)(L:List CD):SS:=⟨T,Lm,L,λi=>dW (dL L i),⟨λ_=>false,λ_=>[]⟩,mQ,λ_=>mQ,0,0⟩
theorem pW {a:Act} {d:Tmp} {v:ϗ} (h:d<a.tmps.size)(t:Tmp):(a.put (some d) v).eval (.tmp t)=if t=d then v else a.eval (.tmp t):=by
 by_cases e:t=d
 ·subst e;simp[js,Act.put,Array.getD_eq_getD_getElem?,h]
 ·simp only[ZI e];simp[js,Act.put,Array.getD_eq_getD_getElem?,Array.getElem?_setIfInBounds_ne (Ne.symm e)]
theorem mM {P:Program} {o:Oper} {a:Act} {w:ϖ} {K:Act->ϖ->Prop} {Q:Exit->Act->ϖ->Prop} {f:FuncId} {args:Array ϗ} (h:(execOp a.eval o).run P w=.ok (.enter f args) w)(hc:Calls P f args w λe w'=>∃v,e=ϰ v/\K (a.put o.dst v) w'):o.wp P a w K Q:=by unfold Oper.wp;rw[h];refine hc.mono ?_;rintro e w' ⟨v,rfl,hk⟩;exact hk
theorem gB {P:Program} {o:Oper} {a:Act} {w w':ϖ} {K:Act->ϖ->Prop} {Q:Exit->Act->ϖ->Prop} {v:ϗ} (h:(execOp a.eval o).run P w=.ok (.value v) w')(hk:K (a.put o.dst v) w'):o.wp P a w K Q:=by unfold Oper.wp;rw[h];exact hk
theorem Cn {P:Program} {o:Oper} {a:Act} {w w':ϖ} {K:Act->ϖ->Prop} {Q:Exit->Act->ϖ->Prop} (h:(execOp a.eval o).run P w=.ok .skip w')(hk:K (a.put o.dst undef) w'):o.wp P a w K Q:=by unfold Oper.wp;rw[h];exact hk
abbrev pt (b:Nat):ϗ:=ψ (some ⟨b,0,none⟩)
structure eR (T Lm:Int) (base:Nat) (w0:ϖ) (ev:Nat->ϗ) (L:Nat->Bool) (w:ϖ) (o:aV):Prop where
 bel:Below base w0 w
 low:∀x,x<base->o x=.no
 c0:L 0=true->ev 23=φ #[ι ε T,ι ε Lm]
 c1:L 1=true->∃T' M',ev 24=pt T'/\aF w T' M' []/\o T'=.tr/\o M'=.tr
 c2:L 2=true->∃B,ev 25=.map (some B)/\aB w B []/\o B=.by_
 c3:L 3=true->∃B fp,ev 26=pt B/\aQ 209 w B (λ_=>none) fp/\∀x,fp x->o x=.lv
 c4:L 4=true->∃B,ev 27=.map (some B)/\aB w B (if L 6=true then [(0,ev 28)] else [])/\o B=.km
 c5:L 5=true->∃B fp,ev 28=pt B/\aQ 211 w B (λ_=>none) fp/\∀x,fp x->o x=.kd 0
 c7:L 7=true->ev 29=ev 27
 c8:L 8=true->ev 30=φ #[ι ε T,ι ε Lm,ev 24,ev 25,Kp,ev 26,ev 27,Ky,Ky]
 c9:L 9=true->∃B,ev 31=pt B/\ah w B #[ι ε T,ι ε Lm,ev 24,ev 25,Kp,ev 26,ev 27,Ky,Ky] 155/\o B=.sy
 c10:L 10=true->ev 4=ev 31
 d6:L 6=true->L 4=true/\L 5=true
 d7:L 7=true->L 4=true
 d8:L 8=true->L 0=true/\L 1=true/\L 2=true/\L 3=true/\L 4=true/\L 7=true
 d9:L 9=true->L 0=true/\L 1=true/\L 2=true/\L 3=true/\L 4=true/\L 7=true/\L 8=true
 d10:L 10=true->L 9=true
section
variable {T Lm:Int} {base:Nat} {w0 w w':ϖ} {ev:Nat->ϗ} {L:Nat->Bool} {o o':aV}
theorem eR.grow (h:eR T Lm base w0 ev L w o)(k:Below w w w')(hb:base<=w)(ho:∀x,x<w.heap.size->o' x=o x)(hl:∀x,x<base->o' x=.no):eR T Lm base w0 ev L w' o':=by
 refine⟨h.bel.trans (k.mono hb),hl,h.c0,λg=>?_,λg=>?_,λg=>?_,λg=>?_,λg=>?_,h.c7,h.c8,λg=>?_,h.c10,h.d6,h.d7,h.d8,h.d9,h.d10⟩
 ·obtain⟨a,b,h1,h2,h3,h4⟩:=h.c1 g;exact⟨a,b,h1,h2.below k,(ho _ h2.1.size).trans h3,(ho _ h2.2.1.size).trans h4⟩
 ·obtain⟨a,h1,h2,h3⟩:=h.c2 g;exact⟨a,h1,h2.below k,(ho _ h2.size).trans h3⟩
 ·obtain⟨a,b,h1,h2,h3⟩:=h.c3 g;exact ηM
 ·obtain⟨a,h1,h2,h3⟩:=h.c4 g;exact⟨a,h1,h2.below k,(ho _ h2.size).trans h3⟩
 ·obtain⟨a,b,h1,h2,h3⟩:=h.c5 g;exact ηM
 ·obtain⟨a,h1,h2,h3⟩:=h.c9 g;exact⟨a,h1,h2.below k h2.size,(ho _ h2.size).trans h3⟩
theorem eR.s0 (h:eR T Lm base w0 ev L w o)(hi:L 0=false)(v:ϗ)(new:v=φ #[ι ε T,ι ε Lm]):eR T Lm base w0 (λt=>if t=23 then v else ev t) (λk=>if k=0 then true else L k) w o where
 bel:=h.bel
 low:=h.low
 c0:=λ_=>by simpa using new
 c1:=λg=>ξT
 c2:=λg=>ξU
 c3:=λg=>ξV
 c4:=λg=>ξ6
 c5:=λg=>ξW
 c7:=λg=>ξ7
 c8:=λg=>ηB
 c9:=λg=>ηC
 c10:=λg=>ξZ
 d6:=λg=>ξD
 d7:=λg=>ξJ
 d8:=λg=>ξK
 d9:=λg=>ξL
 d10:=λg=>ξF
theorem eR.s1 (h:eR T Lm base w0 ev L w o)(hi:L 1=false)(v:ϗ)(new:∃T' M',v=pt T'/\aF w T' M' []/\o T'=.tr/\o M'=.tr):eR T Lm base w0 (λt=>if t=24 then v else ev t) (λk=>if k=1 then true else L k) w o where
 bel:=h.bel
 low:=h.low
 c0:=λg=>ξX
 c1:=λ_=>by simpa using new
 c2:=λg=>ξU
 c3:=λg=>ξV
 c4:=λg=>ξ6
 c5:=λg=>ξW
 c7:=λg=>ξ7
 c8:=λg=>ηq
 c9:=λg=>ηr
 c10:=λg=>ξZ
 d6:=λg=>ξD
 d7:=λg=>ξJ
 d8:=λg=>ξK
 d9:=λg=>ξL
 d10:=λg=>ξF
theorem eR.s2 (h:eR T Lm base w0 ev L w o)(hi:L 2=false)(v:ϗ)(new:∃B,v=.map (some B)/\aB w B []/\o B=.by_):eR T Lm base w0 (λt=>if t=25 then v else ev t) (λk=>if k=2 then true else L k) w o where
 bel:=h.bel
 low:=h.low
 c0:=λg=>ξX
 c1:=λg=>ξT
 c2:=λ_=>by simpa using new
 c3:=λg=>ξV
 c4:=λg=>ξ6
 c5:=λg=>ξW
 c7:=λg=>ξ7
 c8:=λg=>ηq
 c9:=λg=>ηr
 c10:=λg=>ξZ
 d6:=λg=>ξD
 d7:=λg=>ξJ
 d8:=λg=>ξK
 d9:=λg=>ξL
 d10:=λg=>ξF
theorem eR.s3 (h:eR T Lm base w0 ev L w o)(hi:L 3=false)(v:ϗ)(new:∃B fp,v=pt B/\aQ 209 w B (λ_=>none) fp/\∀x,fp x->o x=.lv):eR T Lm base w0 (λt=>if t=26 then v else ev t) (λk=>if k=3 then true else L k) w o where
 bel:=h.bel
 low:=h.low
 c0:=λg=>ξX
 c1:=λg=>ξT
 c2:=λg=>ξU
 c3:=λ_=>by simpa using new
 c4:=λg=>ξ6
 c5:=λg=>ξW
 c7:=λg=>ξ7
 c8:=λg=>ηq
 c9:=λg=>ηr
 c10:=λg=>ξZ
 d6:=λg=>ξD
 d7:=λg=>ξJ
 d8:=λg=>ξK
 d9:=λg=>ξL
 d10:=λg=>ξF
theorem eR.s4 (h:eR T Lm base w0 ev L w o)(hi:L 4=false)(h6:L 6=false)(v:ϗ)(new:∃B,v=.map (some B)/\aB w B []/\o B=.km):eR T Lm base w0 (λt=>if t=27 then v else ev t) (λk=>if k=4 then true else L k) w o where
 bel:=h.bel
 low:=h.low
 c0:=λg=>ξX
 c1:=λg=>ξT
 c2:=λg=>ξU
 c3:=λg=>ξV
 c4:=λ_=>by simpa [h6] using new
 c5:=λg=>ξW
 c7:=λg=>by exfalso;have g:L 7=true:=ρg;have:=h.d7 g;simp[hi] at this
 c8:=λg=>ηq
 c9:=λg=>ηr
 c10:=λg=>ξZ
 d6:=λg=>ξD
 d7:=λg=>ξJ
 d8:=λg=>ξK
 d9:=λg=>ξL
 d10:=λg=>ξF
theorem eR.s5 (h:eR T Lm base w0 ev L w o)(hi:L 5=false)(h6:L 6=false)(v:ϗ)(new:∃B fp,v=pt B/\aQ 211 w B (λ_=>none) fp/\∀x,fp x->o x=.kd 0):eR T Lm base w0 (λt=>if t=28 then v else ev t) (λk=>if k=5 then true else L k) w o where
 bel:=h.bel
 low:=h.low
 c0:=λg=>ξX
 c1:=λg=>ξT
 c2:=λg=>ξU
 c3:=λg=>ξV
 c4:=λg=>by have g:L 4=true:=ρg;have:=h.c4 g;simpa [h6] using this
 c5:=λ_=>by simpa using new
 c7:=λg=>ξ7
 c8:=λg=>ηB
 c9:=λg=>ηC
 c10:=λg=>ξZ
 d6:=λg=>ξD
 d7:=λg=>ξJ
 d8:=λg=>ξK
 d9:=λg=>ξL
 d10:=λg=>ξF
theorem eR.s7 (h:eR T Lm base w0 ev L w o)(hi:L 7=false)(v:ϗ)(dd:L 4=true)(new:v=ev 27):eR T Lm base w0 (λt=>if t=29 then v else ev t) (λk=>if k=7 then true else L k) w o where
 bel:=h.bel
 low:=h.low
 c0:=λg=>ξX
 c1:=λg=>ξT
 c2:=λg=>ξU
 c3:=λg=>ξV
 c4:=λg=>ξ6
 c5:=λg=>ξW
 c7:=λ_=>by simpa using new
 c8:=λg=>ηB
 c9:=λg=>ηC
 c10:=λg=>ξZ
 d6:=λg=>ξD
 d7:=λ_=>by simpa using dd
 d8:=λg=>ξK
 d9:=λg=>ξL
 d10:=λg=>ξF
theorem eR.s8 (h:eR T Lm base w0 ev L w o)(hi:L 8=false)(v:ϗ)(dd:L 0=true/\L 1=true/\L 2=true/\L 3=true/\L 4=true/\L 7=true)(new:v=φ #[ι ε T,ι ε Lm,ev 24,ev 25,Kp,ev 26,ev 27,Ky,Ky]):eR T Lm base w0 (λt=>if t=30 then v else ev t) (λk=>if k=8 then true else L k) w o where
 bel:=h.bel
 low:=h.low
 c0:=λg=>ξX
 c1:=λg=>ξT
 c2:=λg=>ξU
 c3:=λg=>ξV
 c4:=λg=>ξ6
 c5:=λg=>ξW
 c7:=λg=>ξ7
 c8:=λ_=>by simpa using new
 c9:=λg=>ηC
 c10:=λg=>ξZ
 d6:=λg=>ξD
 d7:=λg=>ξJ
 d8:=λ_=>by simpa using dd
 d9:=λg=>ξL
 d10:=λg=>ξF
theorem eR.s9 (h:eR T Lm base w0 ev L w o)(hi:L 9=false)(v:ϗ)(dd:L 0=true/\L 1=true/\L 2=true/\L 3=true/\L 4=true/\L 7=true/\L 8=true)(new:∃B,v=pt B/\ah w B #[ι ε T,ι ε Lm,ev 24,ev 25,Kp,ev 26,ev 27,Ky,Ky] 155/\o B=.sy):eR T Lm base w0 (λt=>if t=31 then v else ev t) (λk=>if k=9 then true else L k) w o where
 bel:=h.bel
 low:=h.low
 c0:=λg=>ξX
 c1:=λg=>ξT
 c2:=λg=>ξU
 c3:=λg=>ξV
 c4:=λg=>ξ6
 c5:=λg=>ξW
 c7:=λg=>ξ7
 c8:=λg=>ηB
 c9:=λ_=>by simpa using new
 c10:=λg=>by exfalso;have g:L 10=true:=ρg;have:=h.d10 g;simp[hi] at this
 d6:=λg=>ξD
 d7:=λg=>ξJ
 d8:=λg=>ξK
 d9:=λ_=>by simpa using dd
 d10:=λg=>ξF
theorem eR.s10 (h:eR T Lm base w0 ev L w o)(hi:L 10=false)(v:ϗ)(dd:L 9=true)(new:v=ev 31):eR T Lm base w0 (λt=>if t=4 then v else ev t) (λk=>if k=10 then true else L k) w o where
 bel:=h.bel
 low:=h.low
 c0:=λg=>ξX
 c1:=λg=>ξT
 c2:=λg=>ξU
 c3:=λg=>ξV
 c4:=λg=>ξ6
 c5:=λg=>ξW
 c7:=λg=>ξ7
 c8:=λg=>ηB
 c9:=λg=>ηC
 c10:=λ_=>by simpa using new
 d6:=λg=>ξD
 d7:=λg=>ξJ
 d8:=λg=>ξK
 d9:=λg=>ξL
 d10:=λ_=>by simpa using dd
end
theorem eR.s6 {T Lm:Int} {base:Nat} {w0 w w':ϖ} {ev:Nat->ϗ} {L:Nat->Bool} {o:aV} (h:eR T Lm base w0 ev L w o)(h4:L 4=true)(h6:L 6=false) {B:Nat} (e:ev 27=.map (some B))(m:aB w' B [(0,ev 28)])(k:KO (λx=>x=B) w w')(oB:o B=.km)(hb:base<=w)(h5:L 5=true):eR T Lm base w0 ev (λk=>if k=6 then true else L k) w' o where
 bel:=h.bel.trans (k.below hb (λx hx e=>by rw[<- e] at oB;rw[h.low x hx] at oB;cases oB))
 low:=h.low
 c0:=λg=>h.c0 ρg
 c1:=λg=>by obtain⟨a,b,h1,h2,h3,h4⟩:=h.c1 ρg;exact⟨a,b,h1,h2.ko k (λe=>by rw[<- e,h3] at oB;cases oB) (λe=>by rw[<- e,h4] at oB;cases oB),h3,h4⟩
 c2:=λg=>by obtain⟨a,h1,h2,h3⟩:=h.c2 ρg;exact⟨a,h1,h2.ko k (λe=>by rw[<- e,h3] at oB;cases oB),h3⟩
 c3:=λg=>by obtain⟨a,b,h1,h2,h3⟩:=h.c3 ρg;exact⟨a,b,h1,h2.ko k (λx hx e=>by have:=h3 x hx;rw[e,oB] at this;cases this),h3⟩
 c4:=λ_=>⟨B,e,by simpa using m,oB⟩
 c5:=λg=>by obtain⟨a,b,h1,h2,h3⟩:=h.c5 ρg;exact⟨a,b,h1,h2.ko k (λx hx e=>by have:=h3 x hx;rw[e,oB] at this;cases this),h3⟩
 c7:=λg=>h.c7 ρg
 c8:=λg=>h.c8 ρg
 c9:=λg=>by obtain⟨a,h1,h2,h3⟩:=h.c9 ρg;exact⟨a,h1,h2.ko k (λe=>by rw[<- e,h3] at oB;cases oB),h3⟩
 c10:=λg=>h.c10 ρg
 d6:=λg=>by simp[h4,h5]
 d7:=λg=>by have:=h.d7 ρg;simp[this]
 d8:=λg=>by have:=h.d8 ρg;simp[this]
 d9:=λg=>by have:=h.d9 ρg;simp[this]
 d10:=λg=>by have:=h.d10 ρg;simp[this]
def IU (T Lm:Int)(base:Nat)(w0:ϖ)(L:Array Bool)(a:Act)(w:ϖ):Prop:=a.tmps.size=41/\a.defers=[]/\a.eval (.tmp 1)=pt base/\base<w/\ah w base #[ι ε T,ι ε Lm] 23/\L.size=11/\∃o,eR T Lm (base+1) w0 (λt=>a.eval (.tmp t)) (λk=>L.getD k false) w o
theorem Fs (T Lm:Int)(w:ϖ)(hT:1<=T/\T<=65536)(hL:1<=Lm/\Lm<=16384):Calls Ψ 48 #[φ #[ι ε T,ι ε Lm]] w λe w'=>∃o a,e=ϰ (χ #[a.S,Kz])/\ar o w' a (fU T Lm [])/\(∀x,x<w.heap.size->o x=.no)/\Below w w w':=by
 have d1:=df (T<1);have d2:=df (65536<T);have d3:=df (Lm<1);have d4:=df (16384<Lm);have Uk:=@run_makeMap Ψ;go_in;go_upto_region 3 with (fail);refine mY (λL a v=>IU T Lm w (w.alloc (.cells #[ι ε T,ι ε Lm] 23)) L a v) ρh ρh ?_ ?_ ?_
 ·refine⟨rfl,rfl,rfl,by simp,ah.drew (ah.alloc_new _ _ _ ρp),by simp,λ_=>.no,?_⟩;refine⟨Below.drew (Below.refl _ _),λ_ _=>rfl,?_,?_,?_,?_,?_,?_,?_,?_,?_,?_,?_,?_,?_,?_,?_⟩<;>(intro g;rw[lS] at g;cases g)
 ·intro i o ho L a v hz hJ Nd hd;obtain⟨Lz,Sw,e1,hbz,C,QQ,ow,J⟩:=hJ;have Nc:∀d x,d<41->(λt=>(a.put (some d) x).eval (.tmp t))=λt=>if t=d then x else a.eval (.tmp t):=λd x h=>funext (pW (by rw[Lz];exact h));have QP:∀i,i<11->(λk=>(L.setIfInBounds i true).getD k false)=λk=>if k=i then true else L.getD k false:=λi h=>funext λk=>by by_cases e:k=i;(· subst e;rw[ZP rfl];exact iW (by rw[QQ];exact h));(· rw[ZI e];exact getD_set_ne false (Ne.symm e))
  have O6:∀d x,d<41->d≠1->(a.put (some d) x).eval (.tmp 1)=pt w:=λd x h h1=>by rw[pW (by rw[Lz];exact h),ZI (Ne.symm h1)];exact e1
  have PF:∀(n:Nat) (t:TG) x,w<n->x<w.heap.size+1->ow.more n t x=.no:=λn t x hn hx=>by rw[aV.more_lt ρa];exact J.low x hx
  match i,ho,Nd,hd with
  | 0,ho,Nd,hd=>
   cases (show some _=some o from ho)
   refine⟨λ_=>?_,λhw=>az hw σK⟩;refine wp_load_mid 23 (.tmp 1) rfl w 0 e1 [ι ε T,ι ε Lm] _ (λj x hj=>by rw[C.cell,Nat.zero_add];simpa using hj) Tryz.underlying23 rfl ρh ?_;exact⟨by simp[Act.put,Lz],Sw,O6 23 _ ρf ρf,by omega,C,by simp[QQ],ow,by rw[Nc 23 _ ρf,QP 0 ρf];exact eR.s0 J Nd _ rfl⟩
  | 1,ho,Nd,hd=>
   cases (show some _=some o from ho)
   refine⟨λ_=>?_,λhw=>az hw σK⟩;refine mM (f:=69) (args:=#[]) τU ?_;refine(HA _).mono ?_;rintro e v2 ⟨T',M',rfl,Uc,RZ,zM',kx⟩;refine⟨_,rfl,?_⟩;exact⟨by simp[Act.put,Lz],Sw,O6 24 _ ρf ρf,by have:=kx.size;omega,C.below kx C.size,by simp[QQ],ow.more v .tr,by rw[Nc 24 _ ρf,QP 1 ρf];exact eR.s1 (J.grow kx ρa (λx hx=>aV.more_lt hx) (λx hx=>PF _ _ x hbz hx)) Nd _ ⟨T',M',rfl,Uc,aV.more_ge RZ,aV.more_ge zM'⟩⟩
  | 2,ho,Nd,hd=>
   cases (show some _=some o from ho)
   refine⟨λ_=>?_,λhw=>az hw σK⟩;refine gB (v:=.map (some v)) (w':=v.alloc (.map #[] 0)) τU ?_;exact⟨by simp[Act.put,Lz],Sw,O6 25 _ ρf ρf,by simp;omega,(C.below ρE C.size),by simp[QQ],ow.more v .by_,by rw[Nc 25 _ ρf,QP 2 ρf];exact eR.s2 (J.grow ρE ρa (λx hx=>aV.more_lt hx) (λx hx=>PF _ _ x hbz hx)) Nd _ ⟨_,rfl,aB.made v,aV.more_ge (ZR _)⟩⟩
  | 3,ho,Nd,hd=>
   cases (show some _=some o from ho)
   refine⟨λ_=>?_,λhw=>az hw σK⟩;refine mM (f:=70) (args:=#[]) τU ?_;refine(Gl _).mono ?_;rintro e v2 ⟨B,rfl,⟨fp,hB,NU⟩,kx⟩;refine⟨_,rfl,?_⟩;exact⟨by simp[Act.put,Lz],Sw,O6 26 _ ρf ρf,by have:=kx.size;omega,C.below kx C.size,by simp[QQ],ow.more v .lv,by rw[Nc 26 _ ρf,QP 3 ρf];exact eR.s3 (J.grow kx ρa (λx hx=>aV.more_lt hx) (λx hx=>PF _ _ x hbz hx)) Nd _ ⟨B,fp,rfl,hB,λx hx=>aV.more_ge (NU x hx)⟩⟩
  | 4,ho,Nd,hd=>
   cases (show some _=some o from ho)
   refine⟨λ_=>?_,λhw=>az hw σK⟩;have H6:L.getD 6 false=false:=κx;refine gB (v:=.map (some v)) (w':=v.alloc (.map #[] 0)) τU ?_;exact⟨by simp[Act.put,Lz],Sw,O6 27 _ ρf ρf,by simp;omega,(C.below ρE C.size),by simp[QQ],ow.more v .km,by rw[Nc 27 _ ρf,QP 4 ρf];exact eR.s4 (J.grow ρE ρa (λx hx=>aV.more_lt hx) (λx hx=>PF _ _ x hbz hx)) Nd H6 _ ⟨_,rfl,aB.made v,aV.more_ge (ZR _)⟩⟩
  | 5,ho,Nd,hd=>
   cases (show some _=some o from ho)
   refine⟨λ_=>?_,λhw=>az hw σK⟩;have H6:L.getD 6 false=false:=κx;refine mM (f:=71) (args:=#[]) τU ?_;refine(CM _).mono ?_;rintro e v2 ⟨B,rfl,⟨fp,hB,NU⟩,kx⟩;refine⟨_,rfl,?_⟩;exact⟨by simp[Act.put,Lz],Sw,O6 28 _ ρf ρf,by have:=kx.size;omega,C.below kx C.size,by simp[QQ],ow.more v (.kd 0),by rw[Nc 28 _ ρf,QP 5 ρf];exact eR.s5 (J.grow kx ρa (λx hx=>aV.more_lt hx) (λx hx=>PF _ _ x hbz hx)) Nd H6 _ ⟨B,fp,rfl,hB,λx hx=>aV.more_ge (NU x hx)⟩⟩
  | 6,ho,Nd,hd=>
   cases (show some _=some o from ho)
   refine⟨λ_=>?_,λhw=>az hw σK⟩;have l4:=hd 4 (List.elem_iff.1 ρh);have l5:=hd 5 (List.elem_iff.1 ρh);obtain⟨B,N7,hB,oB⟩:=J.c4 l4;obtain⟨V,fp,Ye,-,-⟩:=J.c5 l5;replace N7:a.eval (.tmp 27)=_:=N7;replace Ye:a.eval (.tmp 28)=_:=Ye;simp only[Nd] at hB;rw[ZI ρp] at hB;obtain⟨v2,Kk,M2,kx,zx⟩:=bv Γ Θ hB 0 (pt V);have f27:=(cW a 27).trans N7;have f28:=(cW a 28).trans Ye;refine Cn (w':=v2) (by simp only[execOp,f27,f28,N7,Ye];go_simp) ?_;show IU _ _ _ _ _ a _;exact⟨Lz,Sw,e1,by omega,C.ko kx (λh=>by rw[<- h,J.low _ ρa] at oB;cases oB),by simp[QQ],ow,by rw[QP 6 ρf];exact eR.s6 J l4 Nd N7 (by rw[Ye];exact M2) kx oB ρa l5⟩
  | 7,ho,Nd,hd=>
   cases (show some _=some o from ho)
   refine⟨λ_=>?_,λhw=>az hw σK⟩;have l4:=hd 4 (List.elem_iff.1 ρh);obtain⟨B,N7,-,-⟩:=J.c4 l4;replace N7:a.eval (.tmp 27)=_:=N7;have f27:=(cW a 27).trans N7;refine gB (v:=.map (some B)) (w':=v) (by clear Lz;simp only[execOp,N7,f27];go_simp) ?_;exact⟨by simp[Act.put,Lz],Sw,O6 29 _ ρf ρf,by omega,C,by simp[QQ],ow,by rw[Nc 29 _ ρf,QP 7 ρf];exact eR.s7 J Nd _ l4 N7.symm⟩
  | 8,ho,Nd,hd=>
   cases (show some _=some o from ho)
   refine⟨λ_=>?_,λhw=>az hw σK⟩;have l0:=hd 0 (List.elem_iff.1 ρh);have l1:=hd 1 (List.elem_iff.1 ρh);have l2:=hd 2 (List.elem_iff.1 ρh);have l3:=hd 3 (List.elem_iff.1 ρh);have l7:=hd 7 (List.elem_iff.1 ρh);have l4:=J.d7 l7;have e23:=J.c0 l0;obtain⟨x1,_,SW,-⟩:=J.c1 l1;obtain⟨x2,SX,-⟩:=J.c2 l2;obtain⟨x3,_,SY,-⟩:=J.c3 l3;obtain⟨x4,N7,-⟩:=J.c4 l4;have e29:=(J.c7 l7).trans N7;replace e23:a.eval (.tmp 23)=_:=e23;replace SW:a.eval (.tmp 24)=_:=SW;replace SX:a.eval (.tmp 25)=_:=SX;replace SY:a.eval (.tmp 26)=_:=SY;replace N7:a.eval (.tmp 27)=_:=N7;replace e29:a.eval (.tmp 29)=_:=e29;have f23:=(cW a 23).trans e23;have f24:=(cW a 24).trans SW;have f25:=(cW a 25).trans SX;have f26:=(cW a 26).trans SY;have f29:=(cW a 29).trans e29;refine gB (v:=φ #[ι ε T,ι ε Lm,pt x1,.map (some x2),Kp,pt x3,.map (some x4),Ky,Ky]) (w':=v) (by clear Lz;simp only[execOp,e23,SW,SX,SY,e29,f23,f24,f25,f26,f29];go_simp) ?_;exact⟨by simp[Act.put,Lz],Sw,O6 30 _ ρf ρf,by omega,C,by simp[QQ],ow,by rw[Nc 30 _ ρf,QP 8 ρf];exact eR.s8 J Nd _ ⟨l0,l1,l2,l3,l4,l7⟩ (by rw[SW,SX,SY,N7])⟩
  | 9,ho,Nd,hd=>
   cases (show some _=some o from ho)
   refine⟨λ_=>?_,λhw=>az hw σK⟩;have l8:=hd 8 (List.elem_iff.1 ρh);have dd:=J.d8 l8;have e30:=J.c8 l8;obtain⟨x1,_,SW,-⟩:=J.c1 dd.2.1;obtain⟨x2,SX,-⟩:=J.c2 dd.2.2.1;obtain⟨x3,_,SY,-⟩:=J.c3 dd.2.2.2.1;obtain⟨x4,N7,-⟩:=J.c4 dd.2.2.2.2.1;rw[SW,SX,SY,N7] at e30;replace SW:a.eval (.tmp 24)=_:=SW;replace SX:a.eval (.tmp 25)=_:=SX;replace SY:a.eval (.tmp 26)=_:=SY;replace N7:a.eval (.tmp 27)=_:=N7;replace e30:a.eval (.tmp 30)=_:=e30;refine gB (v:=pt v) (w':=v.alloc (.cells #[ι ε T,ι ε Lm,pt x1,.map (some x2),Kp,pt x3,.map (some x4),Ky,Ky] 155)) (by have f30:=(cW a 30).trans e30;simp only[execOp,e30,f30];go_simp) ?_;exact⟨by simp[Act.put,Lz],Sw,O6 31 _ ρf ρf,by simp;omega,(C.below ρE C.size),by simp[QQ],ow.more v .sy,by rw[Nc 31 _ ρf,QP 9 ρf];exact eR.s9 (J.grow ρE ρa (λx hx=>aV.more_lt hx) (λx hx=>PF _ _ x hbz hx)) Nd _ ⟨dd.1,dd.2.1,dd.2.2.1,dd.2.2.2.1,dd.2.2.2.2.1,dd.2.2.2.2.2,l8⟩ ⟨_,rfl,by rw[SW,SX,SY,N7];exact ah.alloc_new _ _ _ ρp,aV.more_ge (ZR _)⟩⟩
  | 10,ho,Nd,hd=>
   cases (show some _=some o from ho)
   refine⟨λ_=>?_,λhw=>az hw σK⟩;have l9:=hd 9 (List.elem_iff.1 ρh);obtain⟨S,Yf,-,-⟩:=J.c9 l9;replace Yf:a.eval (.tmp 31)=_:=Yf;have f31:=(cW a 31).trans Yf;refine gB (v:=pt S) (w':=v) (by clear Lz;simp only[execOp,Yf,f31];go_simp) ?_;exact⟨by simp[Act.put,Lz],Sw,O6 4 _ ρf ρf,by omega,C,by simp[QQ],ow,by rw[Nc 4 _ ρf,QP 10 ρf];exact eR.s10 J Nd _ l9 Yf.symm⟩
  | n+11,ho,_,_=>exact az ho ρp
 ·intro L a v hz hJ J9;obtain⟨Lz,Sw,e1,hbz,C,QQ,ow,J⟩:=hJ;have l0:L.getD 0 false=true:=J9 0 ρp;have l1:L.getD 1 false=true:=J9 1 ρp;have l2:L.getD 2 false=true:=J9 2 ρp;have l3:L.getD 3 false=true:=J9 3 ρp;have l4:L.getD 4 false=true:=J9 4 ρp;have l5:L.getD 5 false=true:=J9 5 ρp;have l6:L.getD 6 false=true:=J9 6 ρp;have l7:L.getD 7 false=true:=J9 7 ρp;have l8:L.getD 8 false=true:=J9 8 ρp;have l9:L.getD 9 false=true:=J9 9 ρp;have HW:L.getD 10 false=true:=J9 10 ρp;obtain⟨T',M',SW,Uc,oT,oM⟩:=J.c1 l1;obtain⟨BY,SX,hBY,Ty⟩:=J.c2 l2;obtain⟨LV,fpe,SY,hLV,hfe⟩:=J.c3 l3;obtain⟨KM,N7,hKM,TB⟩:=J.c4 l4;simp only[l6,if_true] at hKM;obtain⟨V,Te,Ye,hV,Qc⟩:=J.c5 l5;obtain⟨S,Yf,hS,oS⟩:=J.c9 l9;have e4:=(J.c10 HW).trans Yf;rw[SW,SX,SY,N7] at hS;rw[Ye] at hKM;replace e4:a.eval (.tmp 4)=_:=e4;have hbel:=J.bel;have PF:=J.low;rw[vJ a 41 Lz,Sw];simp only[List.range,List.range.loop,fV,List.map_nil,e4];clear J l0 l1 l2 l3 l4 l5 l6 l7 l8 l9 HW SW SX SY N7 Ye Yf e4 e1 J9 hz QQ Sw Lz;generalize a.eval (.tmp 0)=u0;generalize a.eval (.tmp 1)=u1;generalize a.eval (.tmp 2)=u2;generalize a.eval (.tmp 3)=u3;generalize a.eval (.tmp 5)=u5;generalize a.eval (.tmp 6)=u6;generalize a.eval (.tmp 7)=u7;generalize a.eval (.tmp 8)=u8;generalize a.eval (.tmp 9)=u9;generalize a.eval (.tmp 10)=u10;generalize a.eval (.tmp 11)=u11;generalize a.eval (.tmp 12)=u12;generalize a.eval (.tmp 13)=u13;generalize a.eval (.tmp 14)=u14;generalize a.eval (.tmp 15)=u15;generalize a.eval (.tmp 16)=u16;generalize a.eval (.tmp 17)=u17;generalize a.eval (.tmp 18)=u18;generalize a.eval (.tmp 19)=u19;generalize a.eval (.tmp 20)=u20;generalize a.eval (.tmp 21)=u21;generalize a.eval (.tmp 22)=u22;generalize a.eval (.tmp 23)=u23;generalize a.eval (.tmp 24)=u24;generalize a.eval (.tmp 25)=u25;generalize a.eval (.tmp 26)=u26;generalize a.eval (.tmp 27)=u27;generalize a.eval (.tmp 28)=u28;generalize a.eval (.tmp 29)=u29;generalize a.eval (.tmp 30)=u30;generalize a.eval (.tmp 31)=u31;generalize a.eval (.tmp 32)=u32;generalize a.eval (.tmp 33)=u33;generalize a.eval (.tmp 34)=u34;generalize a.eval (.tmp 35)=u35;generalize a.eval (.tmp 36)=u36;generalize a.eval (.tmp 37)=u37;generalize a.eval (.tmp 38)=u38;generalize a.eval (.tmp 39)=u39;generalize a.eval (.tmp 40)=u40;clear a L;have Rr:=hS.r;go_simp;go_wp2_with fail;have JM:w.heap.size+1<=v:=ρa;refine(xm T' M' [] v Uc ρp).mono ?_;rintro e v2 ⟨rfl,hA,kx⟩;have z2:=kx.size;obtain⟨hS2,hT2,OQ⟩:=Mw kx (θ3 hS Uc hBY);have WX:=hV.ko (KO.of_below (F:=λ_=>False) kx) (λ_ _ f=>f);have MD:=hLV.ko (KO.of_below (F:=λ_=>False) kx) (λ_ _ f=>f);have UW:=hKM.below kx;replace Rr:=hS2.r;obtain⟨o3,Xk⟩:∃o3:aV,o3=(λx=>if x<v.heap.size then ow x else if x=v+3 then .ac else if x=v then .ab else if x=v+1 then .ao else .ak):=⟨_,rfl⟩;have oo:∀x,x<v.heap.size->o3 x=ow x:=λx hx=>by rw[Xk];exact ZP hx
  have A2:=hA o3 κo (by rw[Xk];simp) κo κo;have nS:=hS.size;have nT:=Uc.1.size;have nM:=Uc.2.1.size;have nB:=hBY.size;have nK:=hKM.size;have nL:∀x,fpe x->x<v.heap.size:=λx hx=>hLV.lt hx;have nV:∀x,Te x->x<v.heap.size:=λx hx=>hV.lt hx;have kb:=kx;clear hS Uc hBY hLV hKM hV hA kx;go_wp2_with fail;have Ph:=(oo S nS).trans oS;have oT3:=(oo T' nT).trans oT;have oM3:=(oo M' nM).trans oM;have Qh:=(oo BY nB).trans Ty;have Ur:=(oo KM nK).trans TB;have oL3:∀x,fpe x->o3 x=.lv:=λx hx=>(oo x (by have:=MD.lt hx;exact nL x hx)).trans (hfe x hx);have oV3:∀x,Te x->o3 x=.kd 0:=λx hx=>(oo x (nV x hx)).trans (Qc x hx);refine dY v2 (λv=>KO (λx=>x=S) v2 v) (λv3=>KO (λx=>x=S) v2 v3/\ah v3 S #[ι ε T,ι ε Lm,pt T',.map (some BY),pt (v+3),pt LV,.map (some KM),Ky,Ky] 155) ρK (λkx=>⟨kx,ρB⟩) ?_;rintro v3 ⟨kx,S3⟩;refine ZO (v:=χ #[pt S,Kz]) (by simp[results,Tryz.results48,go_sem]) rfl ⟨o3,⟨S,T',M',BY,v.heap.size+3,v,v.heap.size+1,v.heap.size+2,LV,KM,[],[(0,pt V)]⟩,rfl,⟨S3,?_,?_,⟨λ_=>0,λ_=>ψ none,λi=>rfl⟩,?_,⟨fpe,?_,oL3⟩,?_,⟨λ_=>V,λp hp=>?_⟩,Ph,oT3,oM3,Qh,Ur⟩,λx hx=>?_,?_⟩
  ·exact hT2.ko kx (λe=>by rw[e,Ph] at oT3;cases oT3) (λe=>by rw[e,Ph] at oM3;cases oM3)
  ·exact OQ.ko kx (λe=>by rw[e,Ph] at Qh;cases Qh)
  ·exact A2.ko kx (λx hx e=>by rw[e,Ph] at hx;simp[TG.act] at hx)
  ·exact MD.ko kx (λx hx e=>by have:=oL3 x hx;rw[e,Ph] at this;cases this)
  ·exact UW.ko kx (λe=>by rw[e,Ph] at Ur;cases Ur)
  ·have h0:p=0:=by unfold bR fU at hp;simpa [fc] using hp
   subst h0;exact⟨rfl,λ_=>⟨Te,WX.ko kx (λx hx e=>by have:=oV3 x hx;rw[e,Ph] at this;cases this),oV3⟩⟩
  ·rw[oo x ρa];exact PF x ρa
  ·have b2:Below w w v:=Below.trans (Below.alloc (Below.refl _ _) (ZR _) _) (hbel.mono ρa);have b3:Below w v v3:=(KO.of_below (F:=λx=>x=S) kb).trans kx (λ_ _ h=>h) |>.below ρa (λx hx e=>by rw[e] at hx;have:=PF S ρa;rw[oS] at this;cases this);exact b2.trans b3
end Go.Proofs.YtfdlemkplejdnaaGreat
