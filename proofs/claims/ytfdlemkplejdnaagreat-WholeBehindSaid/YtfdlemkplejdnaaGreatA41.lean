/- WholeBehind, part 41. Conditions: none. -/
import Derived.Test.YtfdlemkplejdnaaGreatA39
namespace Go.Proofs.YtfdlemkplejdnaaGreat
open Go.RowKit Go.Sort
open Value renaming int->ι,pointer->ψ,slice->ζ,tuple->χ,agg->φ,map->μ,bool->β
open IntKind renaming u64->υ,i64->ε,u16->ω
open Ending renaming returned->ϰ
open Go.Proofs.Tryz renaming prog->Ψ,underlying3->Θ,underlying147->Δ,underlying152->Γ,underlying202->Φ,underlying39->Ξ,underlying207->Ω
open Go renaming World->ϖ,Value->ϗ
set_option linter.unusedVariables false
set_option linter.unusedSimpArgs false
set_option maxHeartbeats 8000000
set_option maxRecDepth 100000
theorem CX (m a n b:Int)(w:ϖ)(hm:je m)(ha:0<=a/\a<=2147483648)(hn:je n)(hb:0<=b/\b<=2147483648):
  CB 24 #[m,a,n,b] w (nv (if b*m<a*n then (a*n - b*m)*65536 else 0)):=by
 obtain⟨x,hx⟩:=Nq (a*n);obtain⟨y,hy⟩:=Nq (b*m);rw[hx,hy];have hxr:0<=x/\x<=2147483648*Md:=by rw[<- hx];exact⟨Int.mul_nonneg ha.1 hn.1,Int.mul_le_mul ha.2 hn.2 hn.1 ρa⟩
 have hyr:0<=y/\y<=2147483648*Md:=by rw[<- hy];exact⟨Int.mul_nonneg hb.1 hm.1,Int.mul_le_mul hb.2 hm.2 hm.1 ρa⟩
 have x128:ai x:=ρx;have y128:ai y:=ρx;obtain⟨V,hV⟩:=Nq (if y<x then (x - y)*65536 else 0);rw[hV];have r1:0<=a/\a<=Ma:=ρa;have r2:0<=n/\n<=Ma:=ρa;have r3:0<=b/\b<=Ma:=ρa;have r4:0<=m/\m<=Ma:=ρa;replace hx:=ag hx;replace hy:=ag hy;replace hV:=ag hV;unfold CB;go_in;go_wp2_with fail;refine Jc (Ks (λ_=>False) w) (λv=>ah v w fD 70) ρB ?_;rintro v1 R1 F';have Rr:=R1.r;refine(fj a n x v1 r1 r2 hx.out).mono ?_;rintro e v2 ⟨rfl,kx⟩;clear Rr;obtain⟨⟨R2,Iz⟩,Rr⟩:=Mx kx (θ2 R1 F');clear kx;go_wp2_with fail;refine mL (θ2 Iz R2) (λv=>ah v v2 #[(aV (x)),(bX (x)),(gV (x)),(iY (x))] 70) ρB ?_;clear Rr;rintro v3 X3 ⟨ID,R3⟩ Rr;have Ss:=X3.r;refine(fj b m y v3 r3 r4 hy.out).mono ?_;rintro e v4 ⟨rfl,kx⟩;clear Rr Ss;obtain⟨⟨R4,X4,IC⟩,Rr⟩:=Mx kx (θ3 R3 X3 ID);clear kx;go_upto_region 3 with (fail);refine jf (θ3 IC R4 X4) (λv=>ah v v4 #[(aV (y)),(bX (y)),(gV (y)),(iY (y))] 70) ρB ?_;clear Rr;rintro v5 Y5 ⟨IN,R5,X5⟩ Rr;have Ss:=Y5.r;by_cases c:y<x
 ·have hc:=ZT c;obtain⟨D,hD⟩:=Nq (x - y);have hDm:bp (x - y)=D:=by rw[hD];unfold bp;omega
  have Wc:D*65536=V:=by rw[<- hV.out,ZP c,hD]
  have hT:∀u,CB 43 #[nv D,ι υ 65536] u (nv V):=λu=>by have h:=xr D 65536 u ⟨by omega,by omega⟩ ρa;rw[Wc] at h;exact h
  replace c:=ag c;replace hD:=ag hD;replace Wc:=ag Wc;go_wp2_with fail;refine Zc (θ4 IN R5 X5 Y5) ?_;rintro v6 ⟨IQ,R6,X6,Y6⟩;refine(lI y x true v6 y128 x128 hc).mono ?_;rintro e v7 ⟨rfl,kx⟩;clear Rr Ss;obtain⟨⟨R7,X7,Y7,I8⟩,Rr⟩:=Mx kx (θ4 R6 X6 Y6 IQ);clear kx;go_wp2_with fail;refine Zc (θ4 I8 R7 X7 Y7) ?_;rintro v8 ⟨Je,R8,X8,Y8⟩;refine(ud x y D v8 x128 y128 hDm).mono ?_;rintro e v9 ⟨rfl,kx⟩;clear Rr;obtain⟨⟨R9,X9,Y9,Jl⟩,Rr⟩:=Mx kx (θ4 R8 X8 Y8 Je);clear kx;go_wp2_with fail;refine Zc (θ4 Jl R9 X9 Y9) ?_;rintro Lj ⟨I7,Qd,QG,Xw⟩;refine(hT Lj).mono ?_;rintro e JR ⟨rfl,kx⟩;clear Rr;obtain⟨⟨LH,Th,Y11,Jn⟩,Rr⟩:=Mx kx (θ4 Qd QG Xw I7);clear kx;go_wp2_with fail;refine eu JR (λx=>x=w.heap.size) (λv=>ah v w #[(aV (V)),(bX (V)),(gV (V)),(iY (V))] 70) ρB (λ_ kx=>kx) ?_;rintro v99 R99 k9;have Ua:=R99.cell;refine ZO (v:=nv V) (by simp[results,Tryz.results24,go_sem,Ua]) rfl ?_;exact⟨rfl,Jn.toBelow.trans (k9.below Jn.size ρC)⟩
 ·have hc:=ZF c;have Wc:V=0:=by rw[<- hV.out,ZI c]
  replace c:=ag c;replace Wc:=ag Wc;go_wp2_with fail;refine Zc (θ4 IN R5 X5 Y5) ?_;rintro v6 ⟨IQ,R6,X6,Y6⟩;refine(lI y x false v6 y128 x128 hc).mono ?_;rintro e v7 ⟨rfl,kx⟩;clear Rr Ss;obtain⟨⟨R7,X7,Y7,I8⟩,Rr⟩:=Mx kx (θ4 R6 X6 Y6 IQ);clear kx;go_wp2_with fail;refine eu v7 (λx=>x=w.heap.size) (λv=>ah v w #[(aV (0)),(bX (0)),(gV (0)),(iY (0))] 70) ρv (λ_ kx=>kx) ?_;rintro v99 R99 k9;have Ua:=R99.cell;refine ZO (v:=nv 0) (by simp[results,Tryz.results24,go_sem,Ua]) rfl ?_;exact⟨by rw[Wc.out],I8.toBelow.trans (k9.below I8.size ρC)⟩
theorem Ap (m n l s:Int)(w:ϖ)(hm:je m)(hn:je n)(hl:1<=l/\l<=16384)(hs:1<=s/\s<=Me):
  CB 21 #[m,n,ι ε l,s] w (nv (m*n*(2*up (l*65536) s+2))):=by
 obtain⟨N,hN⟩:=Nq (l*65536);obtain⟨g,hg⟩:=Nq (up N s);rw[hN,hg];have hNr:0<=N/\N<=1073741824:=ρa;have N128:ai N:=ρx;have hgr:0<=g/\g<=N:=by
  have e1:=Int.mul_ediv_add_emod N s;have e2:=Int.emod_nonneg N (show s≠0 by omega);have e3:0<=N / s:=Int.ediv_nonneg hNr.1 ρa;have e4:N / s<=s*(N / s):=by have:=Int.mul_le_mul_of_nonneg_right hs.1 e3;omega
  rw[<- hg];unfold up;split<;>omega
 have hCe:tE N s g 0:=.inr (.inr ⟨hs.1,by rw[hg];unfold hi;omega,by rw[hg];unfold lo;omega,rfl⟩);obtain⟨p,hp⟩:=Nq (m*n);have hpr:0<=p/\p<=Md*Md:=by rw[<- hp];exact⟨Int.mul_nonneg hm.1 hn.1,Int.mul_le_mul hm.2 hn.2 hn.1 ρa⟩
 rw[hp];obtain⟨g2,hg2⟩:=Nq (2*g);obtain⟨t,ht⟩:=Nq (g2+2);rw[hg2,ht];have Tw:IntKind.u64.wrap l=l:=ZZ _ ⟨by omega,by omega⟩;have Yn:IntKind.u64.wrap (2*g)=g2:=by rw[hg2];exact ZZ _ ⟨by omega,by omega⟩
 have hw3:IntKind.u64.wrap (g2+2)=t:=by rw[ht];exact ZZ _ ⟨by omega,by omega⟩
 obtain⟨V,hV⟩:=Nq (p*t);rw[hV];have hT:∀u,CB 42 #[nv p,t] u (nv V):=λu=>by have h:=xq p t u ⟨hpr.1,by omega⟩ ⟨by omega,by omega⟩;rw[hV] at h;exact h
 have r1:0<=m/\m<=Ma:=ρa;have r2:0<=n/\n<=Ma:=ρa;have r3:0<=s/\s<=Ma:=ρa;have r4:0<=l/\l<=Ma:=ρa;replace hN:=ag hN;replace hg:=ag hg;replace hp:=ag hp;replace hg2:=ag hg2;replace ht:=ag ht;replace hV:=ag hV;replace hCe:=ag hCe;unfold CB;go_in;go_wp2_with fail;refine Jc (Ks (λ_=>False) w) (λv=>ah v w fD 70) ρB ?_;rintro v1 R1 F';have Rr:=R1.r;refine(fj l 65536 N v1 r4 ρa hN.out).mono ?_;rintro e v2 ⟨rfl,kx⟩;clear Rr;obtain⟨⟨R2,Iz⟩,Rr⟩:=Mx kx (θ2 R1 F');clear kx;go_wp2_with fail;refine Zc (θ2 Iz R2) ?_;rintro v3 ⟨ID,R3⟩;refine(AG N s g 0 v3 N128 r3 hCe.out).mono ?_;rintro e v4 ⟨rfl,kx⟩;clear Rr;obtain⟨⟨R4,IC⟩,Rr⟩:=Mx kx (θ2 R3 ID);clear kx;go_upto_region 2 with (fail);refine jf (θ2 IC R4) (λv=>ah v v4 #[g,Kz] 104) ρB ?_;clear Rr;rintro v5 X5 ⟨IN,R5⟩ Rr;have Ss:=X5.r;have q:=θ2 (af R5) (af X5);refine Ws 8 (mw ?_)
 repeat (go_big_quiet_step ((first
   | (go_at_call 38;(with_reducible exact bT (fj m n p _ r1 r2 hp.out)))
   | (go_at_call 42;(with_reducible exact bT (hT _))))))
 refine bF (θ3 R5 X5 IN) ?_;clear Rr Ss;rintro v6 ⟨R6,X6,IQ⟩ Rr;clear q R5 X5;go_wp2_with fail;refine eu v6 (λx=>x=w.heap.size) (λv=>ah v w #[(aV (V)),(bX (V)),(gV (V)),(iY (V))] 70) ρB (λ_ kx=>kx) ?_;rintro v99 R99 k9;have Ua:=R99.cell;refine ZO (v:=nv V) (by simp[results,Tryz.results21,go_sem,Ua]) rfl ?_;exact⟨rfl,IQ.toBelow.trans (k9.below IQ.size ρC)⟩
def bG (id:Int)(L K:List CD):List Int:=(K.filter λc=>c.lf && (decide (id=0) || decide (id ∈ mB 70 L c.id))).map CD.id
theorem uC (id:Int)(L a:List CD)(c:CD):bG id L (a++[c])=bG id L a++(if c.lf=true/\(id=0\/id ∈ mB 70 L c.id) then [c.id] else []):=by
 unfold bG;rw[List.filter_append,List.map_append,List.filter_cons];by_cases h:c.lf=true/\(id=0\/id ∈ mB 70 L c.id)
 ·rw[ZP h,ZP σL];rfl
 ·rw[ZI h,ZI σL];rfl
theorem kX (id:Int)(L a:List CD):(bG id L a).length<=a.length:=by unfold bG;rw[pf];exact ZH _ _
theorem ur:∀(k:Nat)(L:List CD)(i:Int),(mB k L i).length<=k
 | 0,_,_=>ZR _
 | k+1,L,i=>by
  unfold mB;split
  ·simp
  ·have:=ur k L (by assumption:CD).par;simp;omega
theorem xn (v:ϗ)(L:List CD)(id:Int)(w:ϖ)(B:Nat)(G:az 14 dR w B v L)(Lv:L.length<=1000):Calls Ψ 19 #[v,ι ε id] w λe w'=>∃x,e=ϰ x/\HI w' w x (bG id L L)/\Below w w w':=by
 have hl:=Lv;obtain⟨oa,oc,rfl,-⟩:=G.slice;obtain⟨n,hn⟩:=Nq L.length;rw[hn] at G hl ⊢;have zB:B<=w:=ρu;obtain⟨Y,hY⟩:=Nq (bG id L L);rw[hY];replace hY:=ag hY;go_in;go_wp2_with fail;go_loopw [5,10] (λo k wr=>∃(a b:List CD) (ys:List Int),k=ι ε (a.length:Nat)/\L=a++b/\(bG id L a=ys)/\(HI wr w o ys)/\az 14 dR wr B (ζ oa n oc) L/\KO (λ_=>False) w wr) (λ_ k _=>n - (intOf k).toNat);case atStart=>exact⟨[],L,[],rfl,rfl,rfl,ae.nil _ _,G.below ρE,ρK⟩
 case round=>
  obtain⟨a,b,ys,rfl,IF,Jd,H0,G0,IB⟩:=hrel;have zw:=IB.size;have IK:a.length+b.length=n:=ρy;obtain⟨q,hq⟩:=Nq a.length;rw[hq] at IK ⊢;obtain⟨ob,yc,rfl⟩:=ae.slice H0;cases b with
  | nil=>
   have IJ:¬(q:Int)<(n:Int):=ρo;have hd:=ZF IJ;have Ke:L=a:=ρN;have hyY:Y=ys:=by rw[<- hY.out,<- Jd,<- Ke]
   subst hyY;replace IK:=ag IK;replace IF:=ag IF;replace hq:=ag hq;replace Ke:=ag Ke;replace Jd:=ag Jd;go_wp2;go_ret;exact⟨_,rfl,ae.below H0 ρE,IB.toBelow.trans ρE⟩
  | cons c r=>
   have IJ:(q:Int)<(n:Int):=ρo;have hd:=ZT IJ;have Jm:L[q]?=some c:=ρF;have Ku:c ∈ L:=ρR;have KL:q<n:=ρa;have YD:B<=wr:=σk;obtain⟨g0,II,rfl,hg,RA⟩:=G0.at Jm;have Na:g0<wr:=ρa;have JB:=uC id L a c;rw[Jd] at JB;have Pq:ys.length<=1000:=by rw[<- Jd];have:=kX id L a;omega
   replace IK:=ag IK;replace hq:=ag hq;replace IF:=ag IF;replace Jm:=ag Jm;replace hn:=ag hn;replace Jd:=ag Jd;replace JB:=ag JB;go_upto_region 4 with (fail);go_upto_region 5 with (refine Go.wpList_load_mid rfl 43 _ rfl g0 (II+q*14) rfl (dR c) _ RA Tryz.underlying43 rfl ρh ?_;try simp only[dR]);refine Jw (θ3 IB G0 H0) (λv=>ah v wr (fx c) 43) ρB ?_;rintro v1 X1 ⟨F',G1,H1⟩;replace cX:=X1.cell;replace fX:=X1.frozen;replace zX:=X1.size;by_cases c1:c.lf=true
   rotate_left
   ·have d1:c.lf=false:=by simpa using c1
    have JQ:=ag (show bG id L (a++[c])=ys by rw[JB.out,ZI (by simp[d1]),ZA]);clear c1 JB;go_wp2;go_roundw;case rel=>exact⟨a++[c],r,ys,by rw[ZL,hq.out];go_num,by rw[IF.out];simp,JQ.out,ae.below H1 ρE,G1.below ρE,F'.step0 ρE⟩
    case measure=>have:=IK.out;simp[intOf] at*;omega
   have d1:c.lf=true:=c1;by_cases c2:id=0
   ·have d2:(id==0)=true:=by rw[c2];rfl
    have JQ:=ag (show bG id L (a++[c])=ys++[c.id] by rw[JB.out,ZP ⟨d1,.inl c2⟩]);clear JB;replace c2:=ag c2;go_wp2_with (refine au Tryz.underlying45 bD rfl (λ_=>rfl) ρI ρf ρf rfl (.tmp 28) (.tmp 31) rfl w (ζ ob ys.length yc) ys c.id v1 #[ι ε c.id] rfl ρr ρr (H1.below ρE) ρB ρa ρJ ?_;intro o2 v2 H2 kx;replace kx:=kx.of_alloc;have G2:=G1.ko kx (λy hy=>ae.notown H1 ρa);have X2:=X1.ko kx (λh=>ae.ne_blk H1 X1 ρf h);have Iz:KO (λ_=>False) w v2:=F'.trans kx τ6;have zk2:=Iz.size;replace cX:=X2.cell;replace fX:=X2.frozen;replace zX:=X2.size);go_roundw;case rel=>exact⟨a++[c],r,ys++[c.id],by rw[ZL,hq.out];go_num,by rw[IF.out];simp,JQ.out,ae.below H2 ρE,G2.below ρE,Iz.step0 ρE⟩
    case measure=>have:=IK.out;simp[intOf] at*;omega
   have d2:(id==0)=false:=ZN.2 c2;obtain⟨us,WG⟩:=Nq (mB 70 L c.id);have hul:us.length<=70:=by rw[<- WG];exact ur _ _ _
   have Aa:∀u,az 14 dR u B (ζ (some ⟨g0,II,none⟩) n oc) L->Calls Ψ 41 #[ζ (some ⟨g0,II,none⟩) n oc,ι ε c.id] u λe w'=>∃x,e=ϰ x/\HI w' u x us/\Below u u w':=λu h=>by have g:=Hl _ L c.id u B h Lv;rw[WG] at g;exact g
   replace WG:=ag WG;replace c2:=ag c2;go_wp2_with fail;refine Zc (θ4 F' G1 H1 X1) ?_;rintro v2 ⟨Iz,G2,H2,X2⟩;replace cX:=X2.cell;replace fX:=X2.frozen;replace zX:=X2.size;refine(Aa v2 G2).mono ?_;rintro e v3 ⟨xv,rfl,HU,kx⟩;obtain⟨G3,H3,X3,ID⟩:=Mw kx (θ4 G2 H2 X2 Iz);replace cX:=X3.cell;replace fX:=X3.frozen;replace zX:=X3.size;clear kx;have U3:=ae.rd HU (λ_=>rfl);obtain⟨BU,hBU⟩:=Nq v3.heap.size;rw[hBU] at U3;clear hBU HU;obtain⟨ua,uc,rfl,-⟩:=U3.slice;obtain⟨un,Yk⟩:=Nq us.length;rw[Yk] at U3 hul ⊢;obtain⟨z,hz⟩:=Nq (decide (id ∈ us));have hHs:∀u,az 1 (λx:Int=>[Value.int .i64 x]) u BU (ζ ua un uc) us->CB 40 #[ζ ua un uc,ι ε id] u (β z):=λu h=>by have g:=EL _ us id u BU h ρa;rw[hz] at g;exact g
   replace Yk:=ag Yk;replace hz:=ag hz;go_wp2_with fail;refine Zc (θ5 ID G3 H3 X3 U3) ?_;rintro v4 ⟨IC,G4,H4,X4,U4⟩;replace cX:=X4.cell;replace fX:=X4.frozen;replace zX:=X4.size;refine(hHs v4 U4).mono ?_;rintro e v5 ⟨rfl,kx⟩;obtain⟨G5,H5,X5,U5,IN⟩:=Mw kx (θ5 G4 H4 X4 U4 IC);replace cX:=X5.cell;replace fX:=X5.frozen;replace zX:=X5.size;clear kx;clear Aa hHs U5;cases z
   ·have JQ:=ag (show bG id L (a++[c])=ys by rw[JB.out,ZI (λh=>(h.2.elim c2.out λh=>of_decide_eq_false hz.out (by rw[<- WG.out];exact h))),ZA]);clear JB;go_wp2;go_roundw;case rel=>exact⟨a++[c],r,ys,by rw[ZL,hq.out];go_num,by rw[IF.out];simp,JQ.out,ae.below H5 ρE,G5.below ρE,IN.step0 ρE⟩
    case measure=>have:=IK.out;simp[intOf] at*;omega
   have JQ:=ag (show bG id L (a++[c])=ys++[c.id] by rw[JB.out,ZP ⟨d1,.inr (by rw[WG.out];exact of_decide_eq_true hz.out)⟩]);clear JB;go_wp2_with (refine au Tryz.underlying45 bD rfl (λ_=>rfl) ρI ρf ρf rfl (.tmp 28) (.tmp 31) rfl w (ζ ob ys.length yc) ys c.id v5 #[ι ε c.id] rfl ρr ρr (H5.below ρE) ρB ρa ρJ ?_;intro o6 v6 H6 kx;replace kx:=kx.of_alloc;have G6:=G5.ko kx (λy hy=>ae.notown H5 ρa);have X6:=X5.ko kx (λh=>ae.ne_blk H5 X5 ρf h);have IQ:KO (λ_=>False) w v6:=IN.trans kx σS;have zk6:=IQ.size;replace cX:=X6.cell;replace fX:=X6.frozen;replace zX:=X6.size);go_roundw;case rel=>exact⟨a++[c],r,ys++[c.id],by rw[ZL,hq.out];go_num,by rw[IF.out];simp,JQ.out,ae.below H6 ρE,G6.below ρE,IQ.step0 ρE⟩
   case measure=>have:=IK.out;simp[intOf] at*;omega
end Go.Proofs.YtfdlemkplejdnaaGreat
