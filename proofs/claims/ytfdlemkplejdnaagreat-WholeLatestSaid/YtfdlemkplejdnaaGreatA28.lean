/- WholeLatest, part 28. Conditions: none. -/
import Derived.Test.YtfdlemkplejdnaaGreatA24
namespace Go.Proofs.YtfdlemkplejdnaaGreat
open Go.RowKit Go.Sort
open Value renaming int->ι,pointer->ψ,slice->ζ,tuple->χ,agg->φ,map->μ,bool->β
open IntKind renaming u64->υ,i64->ε,u16->ω
open Ending renaming returned->ϰ
open Go.Proofs.Tryz renaming prog->Ψ,underlying3->Θ,underlying147->Δ,underlying152->Γ,underlying202->Φ,underlying39->Ξ,underlying207->Ω
open Go renaming World->ϖ,Value->ϗ
set_option linter.unusedVariables false
set_option linter.unusedSimpArgs false
set_option maxHeartbeats 8000000
set_option maxRecDepth 100000
theorem vf {L:List CD} {i:Int} {c:CD} (h:fc L i=some c):i ∈ aN (λ_=>true) L:=by unfold aN;rw[List.mem_mergeSort,List.mem_map];exact⟨c,by simp[(aM h).1],(aM h).2⟩
theorem xR (T M:Nat)(L:List CD)(w:ϖ)(H:aF w T M L)(hL:L.length<=1000):Calls Ψ 72 #[T] w λe w'=>e=ϰ (ψ (some ⟨w+3,0,none⟩))/\(∀o:aU,o (w+3)=.ac->o w.heap.size=.ab->o (w+1)=.ao->o (w+2)=.ak->de o w' (w+3) w (w+1) (w+2) L ⟨λ_=>false,λ_=>[]⟩)/\Below w w w':=by
 have Ob:=gE H;obtain⟨ys,KR⟩:=Nq (aN (λ_=>true) L);have QY:ys.length<=1000:=σH;have RZ:∀y ∈ ys,∃c,fc L y=some c:=by rw[<- KR];exact λy hy=>iA hy
 have Zi:ys.Nodup:=by rw[<- KR];exact(jj (p:=λ_=>true) Ob).imp (λh=>by omega)
 have hya:∀i c,fc L i=some c->i ∈ ys:=by rw[<- KR];exact λi c h=>vf h
 have K7:=H.2.2;have UV:=@run_makeMap Ψ;have zT:=H.1.size;have zM:=H.2.1.size;go_in;go_upto_region 2 with (fail);refine aV w (λv=>KO (λ_=>False) w v) (λv=>KO (λ_=>False) w v/\ah v (w+3) #[.map (some w),.map (some (w+1)),.map (some (w+2))] 216/\aB v w []/\aB v (w+1) []/\aB v (w+2) []) ρK (λkx=>⟨kx,ρB,?_,?_,?_⟩) ?_
 ·exact(((aB.made w).alloc _).alloc _).alloc _
 ·have:=((aB.made (w.alloc (.map #[] 0))).alloc (.map #[] 0)).alloc (.cells #[.map (some w),.map (some (w+1)),.map (some (w+2))] 216);simpa using this
 ·have:=(aB.made ((w.alloc (.map #[] 0)).alloc (.map #[] 0))).alloc (.cells #[.map (some w),.map (some (w+1)),.map (some (w+2))] 216);simpa using this
 rintro va ⟨kx,Mm,Qf,ZK,Vj⟩;have z1:=Mm.size;have H1:=H.below kx.toBelow;have I':KO (λ_=>False) w va:=kx;clear kx UV;go_wp2_with fail;refine(Ed T M L _ (H1.below ρE) hL).mono ?_;rintro e vb ⟨u,rfl,G2,k2⟩;rw[KR] at G2;have MZ:Below va va vb:=Below.trans ρE (k2.mono ρp);have k0b:=I'.step0 MZ;have z2:=MZ.size;obtain⟨H2,LJ,QF,Td,Sj⟩:=Mw MZ (θ5 H1 Mm Qf ZK Vj);have G2:=ae.base_le G2 (b':=va.heap.size) ρp;obtain⟨ob,od,rfl⟩:=ae.slice G2;clear k2 MZ I' H1 Mm Qf ZK Vj;obtain⟨n,hn⟩:=Nq ys.length;rw[hn] at G2 QY ⊢;change Hid _ at hn KR Ob;have zT2:=H2.1.size;have zM2:=H2.2.1.size;go_wp2_with fail;go_loopw [17] (λk wr=>∃(a b:List Int) (LB:List (Int × ϗ)),k=ι ε (a.length:Nat)/\ys=a++b/\(∀i,lk i LB=if i ∈ a then eB L i else none)/\HI wr va (ζ ob n od) ys/\aF wr T M L/\ah wr (w+3) #[.map (some w),.map (some (w+1)),.map (some (w+2))] 216/\aB wr w LB/\aB wr (w+1) []/\aB wr (w+2) []/\KO (λx=>x=w.heap.size) vb wr) (λk _=>n - (intOf k).toNat);case atStart=>exact⟨[],ys,[],rfl,rfl,λi=>by simp[lk],G2,H2,LJ,QF,Td,Sj,KO.refl _ _⟩
 case round=>
  obtain⟨a,b,LB,rfl,Kq,hLB,G0,T0,PD,Sg,Wv,UA,Kj⟩:=hrel;have zw:=Kj.size;clear G2 H2 LJ QF Td Sj;have Kv:a.length+b.length=n:=τb;obtain⟨q,hq⟩:=Nq a.length;rw[hq] at Kv ⊢;cases b with
  | nil=>
   refine η6 ?_;intro Ku hd;have ha:a=ys:=ρQ;change Hid _ at Kv hq Kq ha;go_wp2;go_ret;refine⟨rfl,λo h1 h2 h3 h4=>⟨PD.below ρE PD.size,⟨LB,Sg.below ρE,λi=>?_⟩,⟨[],Wv.below ρE,λi=>rfl⟩,⟨[],UA.below ρE,λp=>.inl ⟨rfl,rfl⟩⟩,h1,h2,h3,h4⟩,((KO.trans k0b Kj (F:=λ_=>False) (by intro x hx h;(try dsimp only at h);omega)).step0 ρE).toBelow⟩;rw[hLB i,ha.out];split
   ·rfl
   ·rename_i hi;unfold eB;cases hc:fc L i with
    | none=>rfl
    | some c=>exact ax (hya i c hc) hi
  | cons x r=>
   refine δH ?_;intro Ku hd;have NI:ys[q]?=some x:=ρI;have KI:ys≠[]:=ρS;obtain⟨⟨id,par,lf,r0,r1,r2,l0,l1,l2,u0,u1,u2,pk,by_⟩,hc⟩:=RZ x ρS;have Rw:x ∉ a:=λh=>by rw[Kq,List.nodup_append] at Zi;exact Zi.2.2 x h x ρp rfl
   have ok:0<=l0/\0<=l1/\0<=l2:=(K7 _ (aM hc).1).2.2.2.1;obtain⟨Vd,OA,g0,e0,KY,e1,_⟩:=ae.at G0 (λ_=>rfl);have e1:=e1 KI;have e2:=(qV e0).1;have e3:=(qV e0).2.2;clear e0;subst e2;subst e3;subst e1;obtain⟨cx,gx,bx⟩:=HI.cell G0 q x NI;have Nu:q<n:=ρa;have Mk:eB L x=if dv (kd l0 l1 l2) then some (φ #[ι ε par,ι ε (if lf then 1 else 0)]) else none:=by unfold eB;rw[hc];rfl
   obtain⟨s,hs⟩:=Nq (dv (kd l0 l1 l2));rw[hs] at Mk;change Hid _ at Kq hq KY Kv hc Mk hLB;have Rr:=PD.r;go_wp2_with fail;refine Zc (θ7 Kj T0 G0 PD Sg Wv UA) ?_;rintro v1 ⟨I',T1,G1,Mm,Qf,ZK,Vj⟩;refine(yn T M L x _ _ T1 hc.out).mono ?_;rintro e v2 ⟨rfl,kx⟩;clear Rr;obtain⟨⟨T2,G2,LJ,QF,Td,Sj,J'⟩,Rr⟩:=Mx kx (θ7 T1 G1 Mm Qf ZK Vj I');clear kx;go_upto_region 6 with (fail);refine jW (θ7 J' T2 G2 LJ QF Td Sj) (λv=>ah v v2 (lp id par lf r0 r1 r2 l0 l1 l2 u0 u1 u2 pk by_) 43) ρB ?_;clear Rr;rintro v3 X3 ⟨Kk,T3,G3,Lx,Sh,Vp,Vk⟩ Rr;have Ss:=X3.r;go_wp2_with fail;refine Zc (θ8 Kk T3 G3 Lx Sh Vp Vk X3) ?_;rintro v4 ⟨Km,T4,G4,Mt,A'4,O'4,C'4,X4⟩;refine(lb _ _ _ _ _ _ _ _ _ _ _ _ _ _ _ ok s hs).mono ?_;rintro e v5 ⟨rfl,kx⟩;clear Rr Ss;obtain⟨⟨T5,G5,MS,A'5,O'5,C'5,X5,Kw⟩,Rr⟩:=Mx kx (θ8 T4 G4 Mt A'4 O'4 C'4 X4 Km);clear kx;have zk:=Kw.size;rcases s with _|_
   ·go_wp2;go_roundw;case rel=>exact⟨a++[x],r,LB,by rw[qL,hq.out];go_num,by rw[Kq.out];simp,λi=>by rw[hLB.out i];by_cases h1:i=x;(· subst h1;rw[qI Rw,Mk.out];simp);(· simp[h1]),ae.below G5 ρE,T5.below ρE,MS.below ρE MS.size,A'5.below ρE,O'5.below ρE,C'5.below ρE,Kw.step0 ρE⟩
    case measure=>exact ξb
   ·rcases lf with _|_
    ·go_upto_region 10 with (fail);refine jW (θ8 Kw T5 G5 MS A'5 O'5 C'5 X5) (λv=>ah v v5 #[ι ε par,Kz] 219) ρB ?_;clear Rr;rintro v6 Y6 ⟨KH,T6,G6,PU,A'6,O'6,C'6,X6⟩ Rr;have Ss:=Y6.r;refine bR (θ9 KH T6 G6 PU A'6 O'6 C'6 X6 Y6) ?_;clear Rr Ss;rintro v7 ⟨KV,T7,G7,Qg,A'7,O'7,C'7,X7,Y7⟩ Rr;have NY:=af Qg;have qX:=af X7;have qY:=af Y7;refine Ws 6 (gH ?_);refine bE (θ9 T7 G7 Qg A'7 O'7 C'7 X7 Y7 KV) ?_;clear Rr;rintro v8 ⟨T8,G8,RK,A'8,O'8,C'8,X8,Y8,KZ⟩ Rr;clear NY qX qY T7 G7 Qg A'7 O'7 C'7 X7 Y7;obtain⟨v9,Ld,A'9,kx,zx⟩:=bv Tryz.underlying212 Θ A'8 x (φ #[ι ε par,Kz]);have Ll:=KZ.trans kx σg;have zk9:=Ll.size;have T9:=T8.ko kx ρj ρj;have G9:=ae.ko G8 kx τq;have QG:=RK.ko kx ρj;have O'9:=O'8.ko kx ρj;have C'9:=C'8.ko kx ρj;clear kx zx;go_wp2;go_roundw;case rel=>exact⟨a++[x],r,dN x (φ #[ι ε par,Kz]) LB,by rw[qL,hq.out];go_num,by rw[Kq.out];simp,λi=>by rw[fq,hLB.out i];by_cases h1:i=x;(· subst h1;rw[qP rfl,Mk.out];simp[Gk]);(· simp[h1]),ae.below G9 ρE,T9.below ρE,QG.below ρE QG.size,A'9.below ρE,O'9.below ρE,C'9.below ρE,Ll.step0 ρE⟩
     case measure=>exact ξb
    ·go_upto_region 10 with (fail);refine jW (θ8 Kw T5 G5 MS A'5 O'5 C'5 X5) (λv=>ah v v5 #[ι ε par,Ko] 219) ρB ?_;clear Rr;rintro v6 Y6 ⟨KH,T6,G6,PU,A'6,O'6,C'6,X6⟩ Rr;have Ss:=Y6.r;refine bR (θ9 KH T6 G6 PU A'6 O'6 C'6 X6 Y6) ?_;clear Rr Ss;rintro v7 ⟨KV,T7,G7,Qg,A'7,O'7,C'7,X7,Y7⟩ Rr;have NY:=af Qg;have qX:=af X7;have qY:=af Y7;refine Ws 6 (gH ?_);refine bE (θ9 T7 G7 Qg A'7 O'7 C'7 X7 Y7 KV) ?_;clear Rr;rintro v8 ⟨T8,G8,RK,A'8,O'8,C'8,X8,Y8,KZ⟩ Rr;clear NY qX qY T7 G7 Qg A'7 O'7 C'7 X7 Y7;obtain⟨v9,Ld,A'9,kx,zx⟩:=bv Tryz.underlying212 Θ A'8 x (φ #[ι ε par,Ko]);have Ll:=KZ.trans kx σg;have zk9:=Ll.size;have T9:=T8.ko kx ρj ρj;have G9:=ae.ko G8 kx τq;have QG:=RK.ko kx ρj;have O'9:=O'8.ko kx ρj;have C'9:=C'8.ko kx ρj;clear kx zx;go_wp2;go_roundw;case rel=>exact⟨a++[x],r,dN x (φ #[ι ε par,Ko]) LB,by rw[qL,hq.out];go_num,by rw[Kq.out];simp,λi=>by rw[fq,hLB.out i];by_cases h1:i=x;(· subst h1;rw[qP rfl,Mk.out];simp[Gk]);(· simp[h1]),ae.below G9 ρE,T9.below ρE,QG.below ρE QG.size,A'9.below ρE,O'9.below ρE,C'9.below ρE,Ll.step0 ρE⟩
     case measure=>exact ξb
def f7 (T Lm:Int)(L:List CD):SS:=⟨T,Lm,L,λi=>ep (dP L i),⟨λ_=>false,λ_=>[]⟩,nk,λ_=>nk,0,0⟩
theorem qQ {a:Act} {d:Tmp} {v:ϗ} (h:d<a.tmps.size)(t:Tmp):(a.put (some d) v).eval (.tmp t)=if t=d then v else a.eval (.tmp t):=by
 by_cases e:t=d
 ·subst e;simp[jy,Act.put,Array.getD_eq_getD_getElem?,h]
 ·simp only[qI e];simp[jy,Act.put,Array.getD_eq_getD_getElem?,Array.getElem?_setIfInBounds_ne (Ne.symm e)]
theorem nf {P:Program} {o:Oper} {a:Act} {w:ϖ} {K:Act->ϖ->Prop} {Q:Exit->Act->ϖ->Prop} {f:FuncId} {args:Array ϗ} (h:(execOp a.eval o).run P w=.ok (.enter f args) w)(hc:Calls P f args w λe w'=>∃v,e=ϰ v/\K (a.put o.dst v) w'):o.wp P a w K Q:=by unfold Oper.wp;rw[h];refine hc.mono ?_;rintro e w' ⟨v,rfl,hk⟩;exact hk
theorem gG {P:Program} {o:Oper} {a:Act} {w w':ϖ} {K:Act->ϖ->Prop} {Q:Exit->Act->ϖ->Prop} {v:ϗ} (h:(execOp a.eval o).run P w=.ok (.value v) w')(hk:K (a.put o.dst v) w'):o.wp P a w K Q:=by unfold Oper.wp;rw[h];exact hk
theorem CT {P:Program} {o:Oper} {a:Act} {w w':ϖ} {K:Act->ϖ->Prop} {Q:Exit->Act->ϖ->Prop} (h:(execOp a.eval o).run P w=.ok .skip w')(hk:K (a.put o.dst undef) w'):o.wp P a w K Q:=by unfold Oper.wp;rw[h];exact hk
abbrev pt (b:Nat):ϗ:=ψ (some ⟨b,0,none⟩)
structure eW (T Lm:Int) (base:Nat) (w0:ϖ) (ev:Nat->ϗ) (L:Nat->Bool) (w:ϖ) (o:aU):Prop where
 bel:Below base w0 w
 low:∀x,x<base->o x=.no
 c0:L 0=true->ev 23=φ #[ι ε T,ι ε Lm]
 c1:L 1=true->∃T' M',ev 24=pt T'/\aF w T' M' []/\o T'=.tr/\o M'=.tr
 c2:L 2=true->∃B,ev 25=.map (some B)/\aB w B []/\o B=.by_
 c3:L 3=true->∃B fp,ev 26=pt B/\aQ 209 w B (λ_=>none) fp/\∀x,fp x->o x=.lv
 c4:L 4=true->∃B,ev 27=.map (some B)/\aB w B (if L 6=true then [(0,ev 28)] else [])/\o B=.km
 c5:L 5=true->∃B fp,ev 28=pt B/\aQ 211 w B (λ_=>none) fp/\∀x,fp x->o x=.kd 0
 c7:L 7=true->ev 29=ev 27
 c8:L 8=true->ev 30=φ #[ι ε T,ι ε Lm,ev 24,ev 25,Kp,ev 26,ev 27,Ky,Ky]
 c9:L 9=true->∃B,ev 31=pt B/\ah w B #[ι ε T,ι ε Lm,ev 24,ev 25,Kp,ev 26,ev 27,Ky,Ky] 155/\o B=.sy
 c10:L 10=true->ev 4=ev 31
 d6:L 6=true->L 4=true/\L 5=true
 d7:L 7=true->L 4=true
 d8:L 8=true->L 0=true/\L 1=true/\L 2=true/\L 3=true/\L 4=true/\L 7=true
 d9:L 9=true->L 0=true/\L 1=true/\L 2=true/\L 3=true/\L 4=true/\L 7=true/\L 8=true
 d10:L 10=true->L 9=true
section
variable {T Lm:Int} {base:Nat} {w0 w w':ϖ} {ev:Nat->ϗ} {L:Nat->Bool} {o o':aU}
theorem eW.grow (h:eW T Lm base w0 ev L w o)(k:Below w w w')(hb:base<=w)(ho:∀x,x<w.heap.size->o' x=o x)(hl:∀x,x<base->o' x=.no):eW T Lm base w0 ev L w' o':=by
 refine⟨h.bel.trans (k.mono hb),hl,h.c0,λg=>?_,λg=>?_,λg=>?_,λg=>?_,λg=>?_,h.c7,h.c8,λg=>?_,h.c10,h.d6,h.d7,h.d8,h.d9,h.d10⟩
 ·obtain⟨a,b,h1,h2,h3,h4⟩:=h.c1 g;exact⟨a,b,h1,h2.below k,(ho _ h2.1.size).trans h3,(ho _ h2.2.1.size).trans h4⟩
 ·obtain⟨a,h1,h2,h3⟩:=h.c2 g;exact⟨a,h1,h2.below k,(ho _ h2.size).trans h3⟩
 ·obtain⟨a,b,h1,h2,h3⟩:=h.c3 g;exact ηP
 ·obtain⟨a,h1,h2,h3⟩:=h.c4 g;exact⟨a,h1,h2.below k,(ho _ h2.size).trans h3⟩
 ·obtain⟨a,b,h1,h2,h3⟩:=h.c5 g;exact ηP
 ·obtain⟨a,h1,h2,h3⟩:=h.c9 g;exact⟨a,h1,h2.below k h2.size,(ho _ h2.size).trans h3⟩
theorem eW.s0 (h:eW T Lm base w0 ev L w o)(hi:L 0=false)(v:ϗ)(new:v=φ #[ι ε T,ι ε Lm]):eW T Lm base w0 (λt=>if t=23 then v else ev t) (λk=>if k=0 then true else L k) w o where
 bel:=h.bel
 low:=h.low
 c0:=λ_=>by simpa using new
 c1:=λg=>ξW
 c2:=λg=>ξX
 c3:=λg=>ξY
 c4:=λg=>ξ8
 c5:=λg=>ξZ
 c7:=λg=>ξ9
 c8:=λg=>ηE
 c9:=λg=>ηF
 c10:=λg=>ξ2
 d6:=λg=>ξF
 d7:=λg=>ξK
 d8:=λg=>ξL
 d9:=λg=>ξM
 d10:=λg=>ξG
theorem eW.s1 (h:eW T Lm base w0 ev L w o)(hi:L 1=false)(v:ϗ)(new:∃T' M',v=pt T'/\aF w T' M' []/\o T'=.tr/\o M'=.tr):eW T Lm base w0 (λt=>if t=24 then v else ev t) (λk=>if k=1 then true else L k) w o where
 bel:=h.bel
 low:=h.low
 c0:=λg=>ξ0
 c1:=λ_=>by simpa using new
 c2:=λg=>ξX
 c3:=λg=>ξY
 c4:=λg=>ξ8
 c5:=λg=>ξZ
 c7:=λg=>ξ9
 c8:=λg=>ηt
 c9:=λg=>ηu
 c10:=λg=>ξ2
 d6:=λg=>ξF
 d7:=λg=>ξK
 d8:=λg=>ξL
 d9:=λg=>ξM
 d10:=λg=>ξG
theorem eW.s2 (h:eW T Lm base w0 ev L w o)(hi:L 2=false)(v:ϗ)(new:∃B,v=.map (some B)/\aB w B []/\o B=.by_):eW T Lm base w0 (λt=>if t=25 then v else ev t) (λk=>if k=2 then true else L k) w o where
 bel:=h.bel
 low:=h.low
 c0:=λg=>ξ0
 c1:=λg=>ξW
 c2:=λ_=>by simpa using new
 c3:=λg=>ξY
 c4:=λg=>ξ8
 c5:=λg=>ξZ
 c7:=λg=>ξ9
 c8:=λg=>ηt
 c9:=λg=>ηu
 c10:=λg=>ξ2
 d6:=λg=>ξF
 d7:=λg=>ξK
 d8:=λg=>ξL
 d9:=λg=>ξM
 d10:=λg=>ξG
theorem eW.s3 (h:eW T Lm base w0 ev L w o)(hi:L 3=false)(v:ϗ)(new:∃B fp,v=pt B/\aQ 209 w B (λ_=>none) fp/\∀x,fp x->o x=.lv):eW T Lm base w0 (λt=>if t=26 then v else ev t) (λk=>if k=3 then true else L k) w o where
 bel:=h.bel
 low:=h.low
 c0:=λg=>ξ0
 c1:=λg=>ξW
 c2:=λg=>ξX
 c3:=λ_=>by simpa using new
 c4:=λg=>ξ8
 c5:=λg=>ξZ
 c7:=λg=>ξ9
 c8:=λg=>ηt
 c9:=λg=>ηu
 c10:=λg=>ξ2
 d6:=λg=>ξF
 d7:=λg=>ξK
 d8:=λg=>ξL
 d9:=λg=>ξM
 d10:=λg=>ξG
theorem eW.s4 (h:eW T Lm base w0 ev L w o)(hi:L 4=false)(h6:L 6=false)(v:ϗ)(new:∃B,v=.map (some B)/\aB w B []/\o B=.km):eW T Lm base w0 (λt=>if t=27 then v else ev t) (λk=>if k=4 then true else L k) w o where
 bel:=h.bel
 low:=h.low
 c0:=λg=>ξ0
 c1:=λg=>ξW
 c2:=λg=>ξX
 c3:=λg=>ξY
 c4:=λ_=>by simpa [h6] using new
 c5:=λg=>ξZ
 c7:=λg=>by exfalso;have g:L 7=true:=ρg;have:=h.d7 g;simp[hi] at this
 c8:=λg=>ηt
 c9:=λg=>ηu
 c10:=λg=>ξ2
 d6:=λg=>ξF
 d7:=λg=>ξK
 d8:=λg=>ξL
 d9:=λg=>ξM
 d10:=λg=>ξG
theorem eW.s5 (h:eW T Lm base w0 ev L w o)(hi:L 5=false)(h6:L 6=false)(v:ϗ)(new:∃B fp,v=pt B/\aQ 211 w B (λ_=>none) fp/\∀x,fp x->o x=.kd 0):eW T Lm base w0 (λt=>if t=28 then v else ev t) (λk=>if k=5 then true else L k) w o where
 bel:=h.bel
 low:=h.low
 c0:=λg=>ξ0
 c1:=λg=>ξW
 c2:=λg=>ξX
 c3:=λg=>ξY
 c4:=λg=>by have g:L 4=true:=ρg;have:=h.c4 g;simpa [h6] using this
 c5:=λ_=>by simpa using new
 c7:=λg=>ξ9
 c8:=λg=>ηE
 c9:=λg=>ηF
 c10:=λg=>ξ2
 d6:=λg=>ξF
 d7:=λg=>ξK
 d8:=λg=>ξL
 d9:=λg=>ξM
 d10:=λg=>ξG
theorem eW.s7 (h:eW T Lm base w0 ev L w o)(hi:L 7=false)(v:ϗ)(dd:L 4=true)(new:v=ev 27):eW T Lm base w0 (λt=>if t=29 then v else ev t) (λk=>if k=7 then true else L k) w o where
 bel:=h.bel
 low:=h.low
 c0:=λg=>ξ0
 c1:=λg=>ξW
 c2:=λg=>ξX
 c3:=λg=>ξY
 c4:=λg=>ξ8
 c5:=λg=>ξZ
 c7:=λ_=>by simpa using new
 c8:=λg=>ηE
 c9:=λg=>ηF
 c10:=λg=>ξ2
 d6:=λg=>ξF
 d7:=λ_=>by simpa using dd
 d8:=λg=>ξL
 d9:=λg=>ξM
 d10:=λg=>ξG
theorem eW.s8 (h:eW T Lm base w0 ev L w o)(hi:L 8=false)(v:ϗ)(dd:L 0=true/\L 1=true/\L 2=true/\L 3=true/\L 4=true/\L 7=true)(new:v=φ #[ι ε T,ι ε Lm,ev 24,ev 25,Kp,ev 26,ev 27,Ky,Ky]):eW T Lm base w0 (λt=>if t=30 then v else ev t) (λk=>if k=8 then true else L k) w o where
 bel:=h.bel
 low:=h.low
 c0:=λg=>ξ0
 c1:=λg=>ξW
 c2:=λg=>ξX
 c3:=λg=>ξY
 c4:=λg=>ξ8
 c5:=λg=>ξZ
 c7:=λg=>ξ9
 c8:=λ_=>by simpa using new
 c9:=λg=>ηF
 c10:=λg=>ξ2
 d6:=λg=>ξF
 d7:=λg=>ξK
 d8:=λ_=>by simpa using dd
 d9:=λg=>ξM
 d10:=λg=>ξG
theorem eW.s9 (h:eW T Lm base w0 ev L w o)(hi:L 9=false)(v:ϗ)(dd:L 0=true/\L 1=true/\L 2=true/\L 3=true/\L 4=true/\L 7=true/\L 8=true)(new:∃B,v=pt B/\ah w B #[ι ε T,ι ε Lm,ev 24,ev 25,Kp,ev 26,ev 27,Ky,Ky] 155/\o B=.sy):eW T Lm base w0 (λt=>if t=31 then v else ev t) (λk=>if k=9 then true else L k) w o where
 bel:=h.bel
 low:=h.low
 c0:=λg=>ξ0
 c1:=λg=>ξW
 c2:=λg=>ξX
 c3:=λg=>ξY
 c4:=λg=>ξ8
 c5:=λg=>ξZ
 c7:=λg=>ξ9
 c8:=λg=>ηE
 c9:=λ_=>by simpa using new
 c10:=λg=>by exfalso;have g:L 10=true:=ρg;have:=h.d10 g;simp[hi] at this
 d6:=λg=>ξF
 d7:=λg=>ξK
 d8:=λg=>ξL
 d9:=λ_=>by simpa using dd
 d10:=λg=>ξG
theorem eW.s10 (h:eW T Lm base w0 ev L w o)(hi:L 10=false)(v:ϗ)(dd:L 9=true)(new:v=ev 31):eW T Lm base w0 (λt=>if t=4 then v else ev t) (λk=>if k=10 then true else L k) w o where
 bel:=h.bel
 low:=h.low
 c0:=λg=>ξ0
 c1:=λg=>ξW
 c2:=λg=>ξX
 c3:=λg=>ξY
 c4:=λg=>ξ8
 c5:=λg=>ξZ
 c7:=λg=>ξ9
 c8:=λg=>ηE
 c9:=λg=>ηF
 c10:=λ_=>by simpa using new
 d6:=λg=>ξF
 d7:=λg=>ξK
 d8:=λg=>ξL
 d9:=λg=>ξM
 d10:=λ_=>by simpa using dd
end
theorem eW.s6 {T Lm:Int} {base:Nat} {w0 w w':ϖ} {ev:Nat->ϗ} {L:Nat->Bool} {o:aU} (h:eW T Lm base w0 ev L w o)(h4:L 4=true)(h6:L 6=false) {B:Nat} (e:ev 27=.map (some B))(m:aB w' B [(0,ev 28)])(k:KO (λx=>x=B) w w')(oB:o B=.km)(hb:base<=w)(h5:L 5=true):eW T Lm base w0 ev (λk=>if k=6 then true else L k) w' o where
 bel:=h.bel.trans (k.below hb (λx hx e=>by rw[<- e] at oB;rw[h.low x hx] at oB;cases oB))
 low:=h.low
 c0:=λg=>h.c0 ρg
 c1:=λg=>by obtain⟨a,b,h1,h2,h3,h4⟩:=h.c1 ρg;exact⟨a,b,h1,h2.ko k (λe=>by rw[<- e,h3] at oB;cases oB) (λe=>by rw[<- e,h4] at oB;cases oB),h3,h4⟩
 c2:=λg=>by obtain⟨a,h1,h2,h3⟩:=h.c2 ρg;exact⟨a,h1,h2.ko k (λe=>by rw[<- e,h3] at oB;cases oB),h3⟩
 c3:=λg=>by obtain⟨a,b,h1,h2,h3⟩:=h.c3 ρg;exact⟨a,b,h1,h2.ko k (λx hx e=>by have:=h3 x hx;rw[e,oB] at this;cases this),h3⟩
 c4:=λ_=>⟨B,e,by simpa using m,oB⟩
 c5:=λg=>by obtain⟨a,b,h1,h2,h3⟩:=h.c5 ρg;exact⟨a,b,h1,h2.ko k (λx hx e=>by have:=h3 x hx;rw[e,oB] at this;cases this),h3⟩
 c7:=λg=>h.c7 ρg
 c8:=λg=>h.c8 ρg
 c9:=λg=>by obtain⟨a,h1,h2,h3⟩:=h.c9 ρg;exact⟨a,h1,h2.ko k (λe=>by rw[<- e,h3] at oB;cases oB),h3⟩
 c10:=λg=>h.c10 ρg
 d6:=λg=>by simp[h4,h5]
 d7:=λg=>by have:=h.d7 ρg;simp[this]
 d8:=λg=>by have:=h.d8 ρg;simp[this]
 d9:=λg=>by have:=h.d9 ρg;simp[this]
 d10:=λg=>by have:=h.d10 ρg;simp[this]
def JA (T Lm:Int)(base:Nat)(w0:ϖ)(L:Array Bool)(a:Act)(w:ϖ):Prop:=a.tmps.size=41/\a.defers=[]/\a.eval (.tmp 1)=pt base/\base<w/\ah w base #[ι ε T,ι ε Lm] 23/\L.size=11/\∃o,eW T Lm (base+1) w0 (λt=>a.eval (.tmp t)) (λk=>L.getD k false) w o
theorem FZ (T Lm:Int)(w:ϖ)(hT:1<=T/\T<=65536)(hL:1<=Lm/\Lm<=16384):Calls Ψ 48 #[φ #[ι ε T,ι ε Lm]] w λe w'=>∃o a,e=ϰ (χ #[a.S,Kz])/\ar o w' a (f7 T Lm [])/\(∀x,x<w.heap.size->o x=.no)/\Below w w w':=by
 have d1:=df (T<1);have d2:=df (65536<T);have d3:=df (Lm<1);have d4:=df (16384<Lm);have UV:=@run_makeMap Ψ;go_in;go_upto_region 3 with (fail);refine nE (λL a v=>JA T Lm w (w.alloc (.cells #[ι ε T,ι ε Lm] 23)) L a v) ρi ρi ?_ ?_ ?_
 ·refine⟨rfl,rfl,rfl,by simp,ah.drew (ah.alloc_new _ _ _ ρp),by simp,λ_=>.no,?_⟩;refine⟨Below.drew (Below.refl _ _),λ_ _=>rfl,?_,?_,?_,?_,?_,?_,?_,?_,?_,?_,?_,?_,?_,?_,?_⟩<;>(intro g;rw[mp] at g;cases g)
 ·intro i o ho L a v hz hJ NS hd;obtain⟨MH,Ts,e1,hbz,C,Tn,ow,J⟩:=hJ;have Ny:∀d x,d<41->(λt=>(a.put (some d) x).eval (.tmp t))=λt=>if t=d then x else a.eval (.tmp t):=λd x h=>funext (qQ (by rw[MH];exact h));have RO:∀i,i<11->(λk=>(L.setIfInBounds i true).getD k false)=λk=>if k=i then true else L.getD k false:=λi h=>funext λk=>by by_cases e:k=i;(· subst e;rw[qP rfl];exact i8 (by rw[Tn];exact h));(· rw[qI e];exact getD_set_ne false (Ne.symm e))
  have PS:∀d x,d<41->d≠1->(a.put (some d) x).eval (.tmp 1)=pt w:=λd x h h1=>by rw[qQ (by rw[MH];exact h),qI (Ne.symm h1)];exact e1
  have Qw:∀(n:Nat) (t:TG) x,w<n->x<w.heap.size+1->ow.more n t x=.no:=λn t x hn hx=>by rw[aU.more_lt ρa];exact J.low x hx
  match i,ho,NS,hd with
  | 0,ho,NS,hd=>
   cases (show some _=some o from ho)
   refine⟨λ_=>?_,λhw=>ax hw σJ⟩;refine wp_load_mid 23 (.tmp 1) rfl w 0 e1 [ι ε T,ι ε Lm] _ (λj x hj=>by rw[C.cell,Nat.zero_add];simpa using hj) Tryz.underlying23 rfl ρi ?_;exact⟨by simp[Act.put,MH],Ts,PS 23 _ ρf ρf,by omega,C,by simp[Tn],ow,by rw[Ny 23 _ ρf,RO 0 ρf];exact eW.s0 J NS _ rfl⟩
  | 1,ho,NS,hd=>
   cases (show some _=some o from ho)
   refine⟨λ_=>?_,λhw=>ax hw σJ⟩;refine nf (f:=69) (args:=#[]) τO ?_;refine(ID _).mono ?_;rintro e v2 ⟨T',M',rfl,UN,SV,zM',kx⟩;refine⟨_,rfl,?_⟩;exact⟨by simp[Act.put,MH],Ts,PS 24 _ ρf ρf,by have:=kx.size;omega,C.below kx C.size,by simp[Tn],ow.more v .tr,by rw[Ny 24 _ ρf,RO 1 ρf];exact eW.s1 (J.grow kx ρa (λx hx=>aU.more_lt hx) (λx hx=>Qw _ _ x hbz hx)) NS _ ⟨T',M',rfl,UN,aU.more_ge SV,aU.more_ge zM'⟩⟩
  | 2,ho,NS,hd=>
   cases (show some _=some o from ho)
   refine⟨λ_=>?_,λhw=>ax hw σJ⟩;refine gG (v:=.map (some v)) (w':=v.alloc (.map #[] 0)) τO ?_;exact⟨by simp[Act.put,MH],Ts,PS 25 _ ρf ρf,by simp;omega,(C.below ρE C.size),by simp[Tn],ow.more v .by_,by rw[Ny 25 _ ρf,RO 2 ρf];exact eW.s2 (J.grow ρE ρa (λx hx=>aU.more_lt hx) (λx hx=>Qw _ _ x hbz hx)) NS _ ⟨_,rfl,aB.made v,aU.more_ge (qR _)⟩⟩
  | 3,ho,NS,hd=>
   cases (show some _=some o from ho)
   refine⟨λ_=>?_,λhw=>ax hw σJ⟩;refine nf (f:=70) (args:=#[]) τO ?_;refine(GX _).mono ?_;rintro e v2 ⟨B,rfl,⟨fp,hB,OD⟩,kx⟩;refine⟨_,rfl,?_⟩;exact⟨by simp[Act.put,MH],Ts,PS 26 _ ρf ρf,by have:=kx.size;omega,C.below kx C.size,by simp[Tn],ow.more v .lv,by rw[Ny 26 _ ρf,RO 3 ρf];exact eW.s3 (J.grow kx ρa (λx hx=>aU.more_lt hx) (λx hx=>Qw _ _ x hbz hx)) NS _ ⟨B,fp,rfl,hB,λx hx=>aU.more_ge (OD x hx)⟩⟩
  | 4,ho,NS,hd=>
   cases (show some _=some o from ho)
   refine⟨λ_=>?_,λhw=>ax hw σJ⟩;have H6:L.getD 6 false=false:=κp;refine gG (v:=.map (some v)) (w':=v.alloc (.map #[] 0)) τO ?_;exact⟨by simp[Act.put,MH],Ts,PS 27 _ ρf ρf,by simp;omega,(C.below ρE C.size),by simp[Tn],ow.more v .km,by rw[Ny 27 _ ρf,RO 4 ρf];exact eW.s4 (J.grow ρE ρa (λx hx=>aU.more_lt hx) (λx hx=>Qw _ _ x hbz hx)) NS H6 _ ⟨_,rfl,aB.made v,aU.more_ge (qR _)⟩⟩
  | 5,ho,NS,hd=>
   cases (show some _=some o from ho)
   refine⟨λ_=>?_,λhw=>ax hw σJ⟩;have H6:L.getD 6 false=false:=κp;refine nf (f:=71) (args:=#[]) τO ?_;refine(Ds _).mono ?_;rintro e v2 ⟨B,rfl,⟨fp,hB,OD⟩,kx⟩;refine⟨_,rfl,?_⟩;exact⟨by simp[Act.put,MH],Ts,PS 28 _ ρf ρf,by have:=kx.size;omega,C.below kx C.size,by simp[Tn],ow.more v (.kd 0),by rw[Ny 28 _ ρf,RO 5 ρf];exact eW.s5 (J.grow kx ρa (λx hx=>aU.more_lt hx) (λx hx=>Qw _ _ x hbz hx)) NS H6 _ ⟨B,fp,rfl,hB,λx hx=>aU.more_ge (OD x hx)⟩⟩
  | 6,ho,NS,hd=>
   cases (show some _=some o from ho)
   refine⟨λ_=>?_,λhw=>ax hw σJ⟩;have l4:=hd 4 (List.elem_iff.1 ρi);have l5:=hd 5 (List.elem_iff.1 ρi);obtain⟨B,OP,hB,oB⟩:=J.c4 l4;obtain⟨V,fp,YD,-,-⟩:=J.c5 l5;replace OP:a.eval (.tmp 27)=_:=OP;replace YD:a.eval (.tmp 28)=_:=YD;simp only[NS] at hB;rw[qI ρp] at hB;obtain⟨v2,Ld,M2,kx,zx⟩:=bv Γ Θ hB 0 (pt V);have f27:=(dq a 27).trans OP;have f28:=(dq a 28).trans YD;refine CT (w':=v2) (by simp only[execOp,f27,f28,OP,YD];go_simp) ?_;show JA _ _ _ _ _ a _;exact⟨MH,Ts,e1,by omega,C.ko kx (λh=>by rw[<- h,J.low _ ρa] at oB;cases oB),by simp[Tn],ow,by rw[RO 6 ρf];exact eW.s6 J l4 NS OP (by rw[YD];exact M2) kx oB ρa l5⟩
  | 7,ho,NS,hd=>
   cases (show some _=some o from ho)
   refine⟨λ_=>?_,λhw=>ax hw σJ⟩;have l4:=hd 4 (List.elem_iff.1 ρi);obtain⟨B,OP,-,-⟩:=J.c4 l4;replace OP:a.eval (.tmp 27)=_:=OP;have f27:=(dq a 27).trans OP;refine gG (v:=.map (some B)) (w':=v) (by clear MH;simp only[execOp,OP,f27];go_simp) ?_;exact⟨by simp[Act.put,MH],Ts,PS 29 _ ρf ρf,by omega,C,by simp[Tn],ow,by rw[Ny 29 _ ρf,RO 7 ρf];exact eW.s7 J NS _ l4 OP.symm⟩
  | 8,ho,NS,hd=>
   cases (show some _=some o from ho)
   refine⟨λ_=>?_,λhw=>ax hw σJ⟩;have l0:=hd 0 (List.elem_iff.1 ρi);have l1:=hd 1 (List.elem_iff.1 ρi);have l2:=hd 2 (List.elem_iff.1 ρi);have l3:=hd 3 (List.elem_iff.1 ρi);have l7:=hd 7 (List.elem_iff.1 ρi);have l4:=J.d7 l7;have e23:=J.c0 l0;obtain⟨x1,_,TO,-⟩:=J.c1 l1;obtain⟨x2,TP,-⟩:=J.c2 l2;obtain⟨x3,_,TQ,-⟩:=J.c3 l3;obtain⟨x4,OP,-⟩:=J.c4 l4;have e29:=(J.c7 l7).trans OP;replace e23:a.eval (.tmp 23)=_:=e23;replace TO:a.eval (.tmp 24)=_:=TO;replace TP:a.eval (.tmp 25)=_:=TP;replace TQ:a.eval (.tmp 26)=_:=TQ;replace OP:a.eval (.tmp 27)=_:=OP;replace e29:a.eval (.tmp 29)=_:=e29;have f23:=(dq a 23).trans e23;have f24:=(dq a 24).trans TO;have f25:=(dq a 25).trans TP;have f26:=(dq a 26).trans TQ;have f29:=(dq a 29).trans e29;refine gG (v:=φ #[ι ε T,ι ε Lm,pt x1,.map (some x2),Kp,pt x3,.map (some x4),Ky,Ky]) (w':=v) (by clear MH;simp only[execOp,e23,TO,TP,TQ,e29,f23,f24,f25,f26,f29];go_simp) ?_;exact⟨by simp[Act.put,MH],Ts,PS 30 _ ρf ρf,by omega,C,by simp[Tn],ow,by rw[Ny 30 _ ρf,RO 8 ρf];exact eW.s8 J NS _ ⟨l0,l1,l2,l3,l4,l7⟩ (by rw[TO,TP,TQ,OP])⟩
  | 9,ho,NS,hd=>
   cases (show some _=some o from ho)
   refine⟨λ_=>?_,λhw=>ax hw σJ⟩;have l8:=hd 8 (List.elem_iff.1 ρi);have dd:=J.d8 l8;have e30:=J.c8 l8;obtain⟨x1,_,TO,-⟩:=J.c1 dd.2.1;obtain⟨x2,TP,-⟩:=J.c2 dd.2.2.1;obtain⟨x3,_,TQ,-⟩:=J.c3 dd.2.2.2.1;obtain⟨x4,OP,-⟩:=J.c4 dd.2.2.2.2.1;rw[TO,TP,TQ,OP] at e30;replace TO:a.eval (.tmp 24)=_:=TO;replace TP:a.eval (.tmp 25)=_:=TP;replace TQ:a.eval (.tmp 26)=_:=TQ;replace OP:a.eval (.tmp 27)=_:=OP;replace e30:a.eval (.tmp 30)=_:=e30;refine gG (v:=pt v) (w':=v.alloc (.cells #[ι ε T,ι ε Lm,pt x1,.map (some x2),Kp,pt x3,.map (some x4),Ky,Ky] 155)) (by have f30:=(dq a 30).trans e30;simp only[execOp,e30,f30];go_simp) ?_;exact⟨by simp[Act.put,MH],Ts,PS 31 _ ρf ρf,by simp;omega,(C.below ρE C.size),by simp[Tn],ow.more v .sy,by rw[Ny 31 _ ρf,RO 9 ρf];exact eW.s9 (J.grow ρE ρa (λx hx=>aU.more_lt hx) (λx hx=>Qw _ _ x hbz hx)) NS _ ⟨dd.1,dd.2.1,dd.2.2.1,dd.2.2.2.1,dd.2.2.2.2.1,dd.2.2.2.2.2,l8⟩ ⟨_,rfl,by rw[TO,TP,TQ,OP];exact ah.alloc_new _ _ _ ρp,aU.more_ge (qR _)⟩⟩
  | 10,ho,NS,hd=>
   cases (show some _=some o from ho)
   refine⟨λ_=>?_,λhw=>ax hw σJ⟩;have l9:=hd 9 (List.elem_iff.1 ρi);obtain⟨S,YE,-,-⟩:=J.c9 l9;replace YE:a.eval (.tmp 31)=_:=YE;have f31:=(dq a 31).trans YE;refine gG (v:=pt S) (w':=v) (by clear MH;simp only[execOp,YE,f31];go_simp) ?_;exact⟨by simp[Act.put,MH],Ts,PS 4 _ ρf ρf,by omega,C,by simp[Tn],ow,by rw[Ny 4 _ ρf,RO 10 ρf];exact eW.s10 J NS _ l9 YE.symm⟩
  | n+11,ho,_,_=>exact ax ho ρp
 ·intro L a v hz hJ KW;obtain⟨MH,Ts,e1,hbz,C,Tn,ow,J⟩:=hJ;have l0:L.getD 0 false=true:=KW 0 ρp;have l1:L.getD 1 false=true:=KW 1 ρp;have l2:L.getD 2 false=true:=KW 2 ρp;have l3:L.getD 3 false=true:=KW 3 ρp;have l4:L.getD 4 false=true:=KW 4 ρp;have l5:L.getD 5 false=true:=KW 5 ρp;have l6:L.getD 6 false=true:=KW 6 ρp;have l7:L.getD 7 false=true:=KW 7 ρp;have l8:L.getD 8 false=true:=KW 8 ρp;have l9:L.getD 9 false=true:=KW 9 ρp;have II:L.getD 10 false=true:=KW 10 ρp;obtain⟨T',M',TO,UN,oT,oM⟩:=J.c1 l1;obtain⟨BY,TP,hBY,Uq⟩:=J.c2 l2;obtain⟨LV,fpe,TQ,hLV,hfe⟩:=J.c3 l3;obtain⟨KM,OP,hKM,Us⟩:=J.c4 l4;simp only[l6,if_true] at hKM;obtain⟨V,TU,YD,hV,QQ⟩:=J.c5 l5;obtain⟨S,YE,hS,oS⟩:=J.c9 l9;have e4:=(J.c10 II).trans YE;rw[TO,TP,TQ,OP] at hS;rw[YD] at hKM;replace e4:a.eval (.tmp 4)=_:=e4;have hbel:=J.bel;have Qw:=J.low;rw[wq a 41 MH,Ts];simp only[List.range,List.range.loop,eJ,List.map_nil,e4];clear J l0 l1 l2 l3 l4 l5 l6 l7 l8 l9 II TO TP TQ OP YD YE e4 e1 KW hz Tn Ts MH;generalize a.eval (.tmp 0)=u0;generalize a.eval (.tmp 1)=u1;generalize a.eval (.tmp 2)=u2;generalize a.eval (.tmp 3)=u3;generalize a.eval (.tmp 5)=u5;generalize a.eval (.tmp 6)=u6;generalize a.eval (.tmp 7)=u7;generalize a.eval (.tmp 8)=u8;generalize a.eval (.tmp 9)=u9;generalize a.eval (.tmp 10)=u10;generalize a.eval (.tmp 11)=u11;generalize a.eval (.tmp 12)=u12;generalize a.eval (.tmp 13)=u13;generalize a.eval (.tmp 14)=u14;generalize a.eval (.tmp 15)=u15;generalize a.eval (.tmp 16)=u16;generalize a.eval (.tmp 17)=u17;generalize a.eval (.tmp 18)=u18;generalize a.eval (.tmp 19)=u19;generalize a.eval (.tmp 20)=u20;generalize a.eval (.tmp 21)=u21;generalize a.eval (.tmp 22)=u22;generalize a.eval (.tmp 23)=u23;generalize a.eval (.tmp 24)=u24;generalize a.eval (.tmp 25)=u25;generalize a.eval (.tmp 26)=u26;generalize a.eval (.tmp 27)=u27;generalize a.eval (.tmp 28)=u28;generalize a.eval (.tmp 29)=u29;generalize a.eval (.tmp 30)=u30;generalize a.eval (.tmp 31)=u31;generalize a.eval (.tmp 32)=u32;generalize a.eval (.tmp 33)=u33;generalize a.eval (.tmp 34)=u34;generalize a.eval (.tmp 35)=u35;generalize a.eval (.tmp 36)=u36;generalize a.eval (.tmp 37)=u37;generalize a.eval (.tmp 38)=u38;generalize a.eval (.tmp 39)=u39;generalize a.eval (.tmp 40)=u40;clear a L;have Rr:=hS.r;go_simp;go_wp2_with fail;have Ku:w.heap.size+1<=v:=ρa;refine(xR T' M' [] v UN ρp).mono ?_;rintro e v2 ⟨rfl,hA,kx⟩;have z2:=kx.size;obtain⟨hS2,hT2,PI⟩:=Mw kx (θ3 hS UN hBY);have hV2:=hV.ko (KO.of_below (F:=λ_=>False) kx) (λ_ _ f=>f);have Nx:=hLV.ko (KO.of_below (F:=λ_=>False) kx) (λ_ _ f=>f);have VJ:=hKM.below kx;replace Rr:=hS2.r;obtain⟨o3,XK⟩:∃o3:aU,o3=(λx=>if x<v.heap.size then ow x else if x=v+3 then .ac else if x=v then .ab else if x=v+1 then .ao else .ak):=⟨_,rfl⟩;have oo:∀x,x<v.heap.size->o3 x=ow x:=λx hx=>by rw[XK];exact qP hx
  have A2:=hA o3 κg (by rw[XK];simp) κg κg;have nS:=hS.size;have nT:=UN.1.size;have nM:=UN.2.1.size;have nB:=hBY.size;have nK:=hKM.size;have nL:∀x,fpe x->x<v.heap.size:=λx hx=>hLV.lt hx;have nV:∀x,TU x->x<v.heap.size:=λx hx=>hV.lt hx;have kb:=kx;clear hS UN hBY hLV hKM hV hA kx;go_wp2_with fail;have Qe:=(oo S nS).trans oS;have oT3:=(oo T' nT).trans oT;have oM3:=(oo M' nM).trans oM;have Ra:=(oo BY nB).trans Uq;have Vc:=(oo KM nK).trans Us;have oL3:∀x,fpe x->o3 x=.lv:=λx hx=>(oo x (by have:=Nx.lt hx;exact nL x hx)).trans (hfe x hx);have oV3:∀x,TU x->o3 x=.kd 0:=λx hx=>(oo x (nV x hx)).trans (QQ x hx);refine eu v2 (λv=>KO (λx=>x=S) v2 v) (λv3=>KO (λx=>x=S) v2 v3/\ah v3 S #[ι ε T,ι ε Lm,pt T',.map (some BY),pt (v+3),pt LV,.map (some KM),Ky,Ky] 155) ρK (λkx=>⟨kx,ρB⟩) ?_;rintro v3 ⟨kx,S3⟩;refine qO (v:=χ #[pt S,Kz]) (by simp[results,Tryz.results48,go_sem]) rfl ⟨o3,⟨S,T',M',BY,v.heap.size+3,v,v.heap.size+1,v.heap.size+2,LV,KM,[],[(0,pt V)]⟩,rfl,⟨S3,?_,?_,⟨λ_=>0,λ_=>ψ none,λi=>rfl⟩,?_,⟨fpe,?_,oL3⟩,?_,⟨λ_=>V,λp hp=>?_⟩,Qe,oT3,oM3,Ra,Vc⟩,λx hx=>?_,?_⟩
  ·exact hT2.ko kx (λe=>by rw[e,Qe] at oT3;cases oT3) (λe=>by rw[e,Qe] at oM3;cases oM3)
  ·exact PI.ko kx (λe=>by rw[e,Qe] at Ra;cases Ra)
  ·exact A2.ko kx (λx hx e=>by rw[e,Qe] at hx;simp[TG.act] at hx)
  ·exact Nx.ko kx (λx hx e=>by have:=oL3 x hx;rw[e,Qe] at this;cases this)
  ·exact VJ.ko kx (λe=>by rw[e,Qe] at Vc;cases Vc)
  ·have h0:p=0:=by unfold bT f7 at hp;simpa [fc] using hp
   subst h0;exact⟨rfl,λ_=>⟨TU,hV2.ko kx (λx hx e=>by have:=oV3 x hx;rw[e,Qe] at this;cases this),oV3⟩⟩
  ·rw[oo x ρa];exact Qw x ρa
  ·have b2:Below w w v:=Below.trans (Below.alloc (Below.refl _ _) (qR _) _) (hbel.mono ρa);have b3:Below w v v3:=(KO.of_below (F:=λx=>x=S) kb).trans kx (λ_ _ h=>h) |>.below ρa (λx hx e=>by rw[e] at hx;have:=Qw S ρa;rw[oS] at this;cases this);exact b2.trans b3
end Go.Proofs.YtfdlemkplejdnaaGreat
