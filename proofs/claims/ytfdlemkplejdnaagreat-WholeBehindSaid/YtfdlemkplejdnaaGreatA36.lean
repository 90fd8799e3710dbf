/- WholeBehind, part 36. Conditions: none. -/
import Derived.Test.YtfdlemkplejdnaaGreatA33
import Derived.Test.YtfdlemkplejdnaaGreatA34
namespace Go.Proofs.YtfdlemkplejdnaaGreat
open Go.RowKit Go.Sort
open Value renaming int->ι,pointer->ψ,slice->ζ,tuple->χ,agg->φ,map->μ,bool->β
open IntKind renaming u64->υ,i64->ε,u16->ω
open Ending renaming returned->ϰ
open Go.Proofs.Tryz renaming prog->Ψ,underlying3->Θ,underlying147->Δ,underlying152->Γ,underlying202->Φ,underlying39->Ξ,underlying207->Ω
open Go renaming World->ϖ,Value->ϗ
set_option linter.unusedVariables false
set_option linter.unusedSimpArgs false
set_option maxHeartbeats 8000000
set_option maxRecDepth 100000
def eC (w:ϖ)(B:Nat)(v:ϗ)(L:List OI):Prop:=iP w B v L
section
variable {w v:ϖ} {B:Nat} {x:ϗ} {L:List OI}
theorem eC.base_le (h:eC w B x L):B<=w:=by obtain⟨_,_,_,_,h,_⟩:=h;exact h
theorem eC.below (h:eC w B x L)(k:Below w w v):eC v B x L:=iP.below h (k.mono h.base_le)
instance {w B x L}:Mv (eC w B x L) w (λv'=>eC v' B x L):=⟨λk h=>eC.below h k⟩
theorem eC.slice (h:eC w B x L):∃a IM,x=ζ a L.length IM/\L.length<=maxLen:=by obtain⟨a,IM,h1,h2,_⟩:=h;exact⟨a,IM,h1,h2⟩
theorem eC.at {a:Option Addr} {m IM:Nat} (h:eC w B (ζ a m IM) L) {i:Nat} {y:OI} (hi:L[i]?=some y):∃g II cs,a=some ⟨g,II,none⟩/\g<B/\jd w B y cs/\w.rangeAt g (II+i*10) cs:=by obtain⟨a',QJ,h1,_,_,h4⟩:=h;rw[(ZV h1).1];exact h4 i y hi
end
theorem Gt (v:ϗ)(L:List OI)(T Lm most:Int)(hm:most<=1000)(w:ϖ)(B:Nat)(G:eC w B v L):
  CB 28 #[φ #[ι ε T,ι ε Lm,v],ι ε most] w (β (decide ((L.length:Int)<=most/\∀y ∈ L,y.ch.length<=40/\y.rl.length<=40))):=by
 obtain⟨z,hz⟩:∃z,decide ((L.length:Int)<=most/\∀y ∈ L,y.ch.length<=40/\y.rl.length<=40)=z:=⟨_,rfl⟩;rw[hz];obtain⟨oa,oc,rfl,-⟩:=G.slice;obtain⟨n,hn⟩:=Nq L.length;have zB:B<=w:=G.base_le;rw[hn] at G ⊢;by_cases c0:most<(n:Int)
 ·have d0:=ZT c0;obtain rfl:z=false:=by rw[<- hz];exact ZF (λh=>by have:=h.1;omega)
  replace hz:=ag hz;unfold CB;go_in;exact ηR
 have d0:=ZF c0;have hl:n<=1000:=ρa;replace hz:=ag hz;unfold CB;go_in;go_wp2_with fail;go_loopw [15] (fun  k wr=>∃(a b:List OI),k=ι ε (a.length:Nat)/\L=a++b/\(∀y ∈ a,y.ch.length<=40/\y.rl.length<=40)/\ah wr w #[ι ε T,ι ε Lm,ζ oa n oc] 26/\eC wr B (ζ oa n oc) L/\KO (λ_=>False) w wr) (λk _=>n - (intOf k).toNat);case atStart=>exact⟨[],L,rfl,rfl,λy h=>ax h ρp,ρB,G.below ρE,ρK⟩
 case round=>
  obtain⟨a,b,rfl,IF,I3,S0,G0,IB⟩:=hrel;refine δe ?_;intro zw IK q hq;rw[hq] at IK ⊢;have Rr:=S0.r;cases b with
  | nil=>
   refine η8 ?_;intro IJ hd;have Ke:L=a:=ρN;obtain rfl:z=true:=by rw[<- hz.out];exact ZT ⟨by omega,by rw[Ke];exact I3⟩
   change Hid _ at IK IF hq Ke I3;exact ηQ
  | cons c r=>
   refine δb ?_;intro IJ hd;have Jm:L[q]?=some c:=ρF;have Ku:c ∈ L:=ρR;have KL:q<n:=ρa;have YD:=G0.base_le;obtain⟨g0,II,cs,rfl,hg,hO,RA⟩:=G0.at Jm;obtain⟨cv,rv,rfl,Jq,Nr⟩:=hO;obtain⟨ca,cc,rfl,-⟩:=Jq.slice;obtain⟨rb,rc,rfl,-⟩:=Nr.slice;have Na:g0<wr:=ρa;change Hid _ at IK IF hq Jm I3;go_upto_region 5 with (fail);go_upto_region 6 with (refine Go.wpList_load_mid rfl 80 _ rfl g0 (II+q*10) rfl (Ew c (ζ ca c.ch.length cc) (ζ rb c.rl.length rc)) _ RA Tryz.underlying80 rfl ρh ?_;try simp only[Ew]);refine δD ?_;clear Rr;rintro v1 X1 ⟨F',S1,G1⟩ Rr;have Ss:=X1.r;by_cases c1:40<c.ch.length
   ·have d1:=dt (40<(c.ch.length:Int));have e1:=ZT c1;exact ηp
   have d1:=df (40<(c.ch.length:Int));have e1:=ZF c1;by_cases c2:40<c.rl.length
   ·have d2:=dt (40<(c.rl.length:Int));have e2:=ZT c2;exact ηp
   have d2:=df (40<(c.rl.length:Int));have e2:=ZF c2;go_wp2;go_roundw;case rel=>exact⟨a++[c],r,by rw[ZL,hq.out];go_num,by rw[IF.out];simp,λy hy=>(ZM.1 hy).elim (I3.out y) (λh=>by rw[ZS.1 h];omega),ρB,G1.below ρE,F'.step0 ρE⟩
   case measure=>exact ξc
theorem Dq (v:ϗ)(L:List OI)(T Lm most:Int)(hm:most<=1000)(w:ϖ)(B:Nat)(G:eC w B v L):
  CB 7 #[φ #[ι ε T,ι ε Lm,v],ι ε most] w (β (decide ((1<=T/\T<=65536/\1<=Lm/\Lm<=16384)/\(L.length:Int)<=most/\∀y ∈ L,y.ch.length<=40/\y.rl.length<=40))):=by
 obtain⟨y,hy⟩:∃z,decide ((1<=T/\T<=65536/\1<=Lm/\Lm<=16384)/\(L.length:Int)<=most/\∀y ∈ L,y.ch.length<=40/\y.rl.length<=40)=z:=⟨_,rfl⟩;rw[hy];obtain⟨x,hx⟩:∃z,decide ((L.length:Int)<=most/\∀y ∈ L,y.ch.length<=40/\y.rl.length<=40)=z:=⟨_,rfl⟩;have hF:∀u B9 G9,eC u B9 G9 L->CB 28 #[φ #[ι ε T,ι ε Lm,G9],ι ε most] u (β x):=λu B9 G9 h=>by have g:=Gt G9 L T Lm most hm u B9 h;rw[hx] at g;exact g
 obtain⟨oa,oc,rfl,-⟩:=G.slice;obtain⟨n,hn⟩:=Nq L.length;rw[hn] at G ⊢;have zB:B<=w:=G.base_le;obtain⟨z,hz⟩:∃z,decide (1<=T/\T<=65536/\1<=Lm/\Lm<=16384)=z:=⟨_,rfl⟩;have hyxz:y=(z && x):=by rw[<- hy,<- hx,<- hz,Bool.decide_and]
 change Hid _ at hx hy;unfold CB;go_in;go_wp2_with fail;refine Jc (θ2 (Ks (λ_=>False) w) G) (λv=>ah v w #[ι ε T,ι ε Lm,ζ oa n oc] 26) ρB ?_;rintro v1 S1 ⟨F',G1⟩;have Rr:=S1.r;refine(Db T Lm v1).mono ?_;rintro e v2 ⟨rfl,kx⟩;clear Rr;obtain⟨⟨G2,S2,Iz⟩,Rr⟩:=Mx kx (θ3 G1 S1 F');clear kx;rw[hz];replace hz:=ag hz;cases z
 ·subst hyxz;exact ηo
 subst hyxz;go_wp2_with fail;refine Zc (θ3 Iz G2 S2) ?_;rintro v3 ⟨ID,G3,S3⟩;refine(hF v3 B _ G3).mono ?_;rintro e v4 ⟨rfl,kx⟩;clear Rr;obtain⟨⟨G4,S4,IC⟩,Rr⟩:=Mx kx (θ3 G3 S3 ID);clear kx;go_wp2;go_ret;exact⟨rfl,IC.toBelow.trans ρE⟩
theorem Dm (v:ϗ)(L:List OI)(T Lm:Int)(hc:∀x ∈ L,∀c ∈ x.ch,CN c.2)(w:ϖ)(B:Nat)(G:eC w B v L):Calls Ψ 6 #[φ #[ι ε T,ι ε Lm,v]] w λe w'=>∃sa sn sc m,e=ϰ (χ #[ζ sa sn sc,β (m==(0:Int))])/\(m=0->∃x0 r,L=x0::r/\x0.k=1/\(∀y ∈ r,y.k≠1)/\∃M,ae 43 14 dR w' w (ζ sa sn sc) M/\dq x0.ch [] M/\(1<=T/\T<=65536)/\x0.ch.length<=32/\Ca T (M.filter λc:CD=>cW (kd c.r0 c.r1 c.r2)))/\Below w w w':=by
 obtain⟨oa,oc,rfl,Yc⟩:=G.slice;obtain⟨n,hn⟩:=Nq L.length;have hl:n<=Mb:=by rw[<- hn];exact ZK Yc σ1
 rw[hn] at G ⊢;have zB:B<=w:=G.base_le;clear Yc;cases L with
 | nil=>
  obtain rfl:n=0:=by rw[<- hn];rfl
  exact ηv
 | cons x0 r0=>
  obtain⟨g1,PQ,cs1,e1,hg1,hO1,Zg⟩:=G.at (i:=0) (y:=x0) rfl;obtain⟨cv1,rv1,rfl,hch1,hrl1⟩:=hO1;obtain⟨ka,kc,rfl,-⟩:=hch1.slice;obtain⟨nc,hnc⟩:=Nq x0.ch.length;have hc0:=hc x0 ρp;rw[hnc] at Zg hch1;have Kv:0<n:=by rw[<- hn];simp
  have dn:((n:Int)==0)=false:=ZN.2 ρa;have hnl:(0:Int)<(n:Int):=ρa;obtain⟨L,hL⟩:=Nq (x0::r0);rw[hL] at G hn hc ⊢;subst e1;replace hL:=ag hL;have b0:w.cell? ⟨g1,PQ,none⟩=some (ι ε x0.k):=by have:=Zg 0 _ rfl;simpa using this
  change Hid _ at hnc hn;have hgw1:g1<w:=ρa;by_cases c1:x0.k=1
  rotate_left
  ·have d1:(x0.k !=1)=true:=by simpa using c1
   replace c1:=ag c1;exact ηv
  have d1:(x0.k !=1)=false:=by simp[c1]
  replace c1:=ag c1;go_in;go_wp2_with fail;go_loopw [22] (fun  k wr=>∃(a b:List OI),k=ι ε (a.length:Nat)/\L=a++b/\(∀(i:Nat) (y:OI),0<i->i<a.length->L[i]?=some y->y.k≠1)/\ah wr w #[ι ε T,ι ε Lm,ζ (some ⟨g1,PQ,none⟩) n oc] 26/\eC wr B (ζ (some ⟨g1,PQ,none⟩) n oc) L/\KO (λ_=>False) w wr) (λk _=>n - (intOf k).toNat);case atStart=>exact⟨[],L,rfl,rfl,λi y h0 hi=>ax hi ρp,ρB,G.below ρE,ρK⟩
  case round=>
   obtain⟨a,b,rfl,IF,I3,S0,G0,IB⟩:=hrel;have zw:=IB.size;have IK:a.length+b.length=n:=τe;obtain⟨q,hq⟩:=Nq a.length;rw[hq] at IK ⊢;have Rr:=S0.r;cases b with
   | nil=>
    refine η8 ?_;intro IJ hd;have Ke:L=a:=ρN;change Hid _ at IK IF hq Ke I3;go_upto_region 9 with (fail);refine bS (θ3 IB S0 G0) ?_;clear Rr;rintro v1 ⟨F',S1,G1⟩ Rr;have bc:v1.cell? ⟨g1,PQ+1,none⟩=some (ζ ka nc kc):=(F'.toBelow.cell (p:=⟨g1,PQ+1,none⟩) (by have:=G.base_le;show g1<_;omega)).trans (by have:=Zg 1 _ rfl;simpa using this);have hch2:=hch1.below F'.toBelow;replace hc0:=ag hc0;go_cut [6] from 35 to 44 (λt wx=>∃(A:Nat) (sa:Option Addr) (sn sc:Nat) (i m:Int),t=A/\ah wx A #[ζ sa sn sc,ι ε i,ι ε m] 82/\(m=0->∃M,ae 43 14 dR wx w (ζ sa sn sc) M/\dq x0.ch [] M/\(1<=T/\T<=65536)/\x0.ch.length<=32/\Ca T (M.filter λc:CD=>cW (kd c.r0 c.r1 c.r2)))/\KO (λ_=>False) v1 wx);case first=>
     have hg1v:g1<v1:=by have:=F'.size;omega
     go_region_held3 (λv=>(∀i,v.cell? ⟨w,i,none⟩=#[ι ε T,ι ε Lm,ζ (some ⟨g1,PQ,none⟩) n oc][i]?)/\w.heap.size<v/\v.cell? ⟨g1,PQ+1,none⟩=some (ζ ka nc kc)/\Below v1 v1 v) (exact ρH)
      (first
       | (go_at_call 26;refine(Al (ζ ka nc kc) x0.ch T hc0.out _ B (hch2.below ρE)).mono ?_;rintro e v2 ⟨sa,sn,sc,i,m,rfl,hm,f'⟩;have Tx:Below v1 v1 v2:=Below.trans ρE (f'.mono ρp);have Wm:=ag hm;clear hm;have kS2:=S1.below Tx S1.size;have cS2:=kS2.cell;have zS2:=kS2.size;have bc2:v2.cell? ⟨g1,PQ+1,none⟩=some (ζ ka nc kc):=(Tx.cell (p:=⟨g1,PQ+1,none⟩) hg1v).trans bc;have hg2:g1<v2:=ZB hg1v Tx.size;have IY:=f'.size;(try simp at IY);(try have hX:=Xb f');(try simp only[World.size_alloc] at hX);(try have rX:=hX.r)))
     all_goals
      (try go_split_ands);go_wp2;go_meet;exact⟨_,sa,sn,sc,i,m,rfl,ρB,λh=>(Wm.out h).imp λM g=>⟨ae.base_le (by first|(refine ae.below g.1 ?_;(repeat' (first|(with_reducible (first|exact Below.refl _ _|assumption|refine below_drewN ?_ _|refine Below.drew ?_|refine Below.alloc ?_ ?_ _|refine Below.setCell ?_ ?_ _))|go_size));done)|(refine ae.ko (F:=λx=>x=v1.heap.size) g.1 ?_ ?_;((repeat' (first|(with_reducible (first|exact KO.refl _ _|assumption|refine KO.drewN ?_ _|refine KO.drew ?_|refine KO.alloc ?_ _|refine KO.setCell ?_ ?_ _))|(intro _;first|rfl|assumption|(simp;done)))));(intro x hx _ e;(try simp at hx);omega))) (by have:=F'.size;(try simp);omega),g.2⟩,KO.of_below ρE⟩
    case rest=>
     obtain⟨A,sa,sn,sc,i,m,rfl,A2,hm,Iz⟩:=hcut;have Ss:=A2.r;replace hm:=ag hm;go_upto_region 10 with fail;go_region
     all_goals
      go_wp2_with fail;refine ZO (v:=χ #[ζ sa sn sc,β (m==0)]) τT rfl ?_;refine⟨sa,sn,sc,m,rfl,λh0=>?_,((F'.step0 Iz.toBelow).step0 ρE).toBelow⟩;obtain⟨M,g1,g2⟩:=hm.out h0;exact⟨x0,r0,hL.out.symm,c1.out,λy hy=>by obtain⟨j,hj⟩:=List.getElem?_of_mem hy;exact I3.out (j+1) y ρa (by rw[<- Ke.out,<- hL.out];have:=(List.getElem?_eq_some_iff.1 hj).1;simp;omega) (by rw[<- hL.out];simpa using hj),M,ae.below g1 ρE,g2⟩
   | cons c r=>
    refine δb ?_;intro IJ hd;have Jm:L[q]?=some c:=ρF;have Ku:c ∈ L:=ρR;have KL:q<n:=ρa;have YD:=G0.base_le;obtain⟨g1,PQ,cs,e0,hg,hO,RA⟩:=G0.at Jm;cases e0
    obtain⟨cv,rv,rfl,Jq,Nr⟩:=hO;obtain⟨ca,cc,rfl,-⟩:=Jq.slice;obtain⟨rb,rc,rfl,-⟩:=Nr.slice;have Na:g1<wr:=ρa;change Hid _ at IK IF hq I3;have hcq':=ag Jm;clear Jm;go_upto_region 5 with (fail);go_upto_region 6 with (refine Go.wpList_load_mid rfl 80 _ rfl g1 (PQ+q*10) rfl (Ew c (ζ ca c.ch.length cc) (ζ rb c.rl.length rc)) _ RA Tryz.underlying80 rfl ρh ?_;try simp only[Ew]);refine δD ?_;clear Rr;rintro v1 X1 ⟨F',S1,G1⟩ Rr;replace cX:=X1.cell;replace fX:=X1.frozen;replace zX:=X1.size;by_cases c2:0<q
    rotate_left
    ·have d2:=df (0<(q:Int));have Vc:=ZF c2;go_wp2;go_roundw;case rel=>exact⟨a++[c],r,by rw[ZL,hq.out];go_num,by rw[IF.out];simp,λi y h0 hi hy=>by rw[ZL,hq.out] at hi;simp at hi;by_cases e:i<q;(exact I3.out i y h0 (by rw[hq.out];exact e) hy);(have:i=q:=by omega);(rw[this,hcq'.out] at hy;cases hy;omega),ρB,G1.below ρE,F'.step0 ρE⟩
     case measure=>exact ξc
    have d2:=dt (0<(q:Int));have Vc:=ZT c2;by_cases c3:c.k=1
    ·have d3:(c.k==1)=true:=by rw[c3];rfl
     replace c3:=ag c3;go_wp2_with fail;refine ZO (v:=χ #[Kn,dI]) τT rfl ?_;exact⟨none,0,0,1,rfl,λh=>ax h ρf,(F'.step0 ρE).toBelow⟩
    have d3:(c.k==1)=false:=ZN.2 c3;replace c3:=ag c3;go_wp2;go_roundw;case rel=>exact⟨a++[c],r,by rw[ZL,hq.out];go_num,by rw[IF.out];simp,λi y h0 hi hy=>by rw[ZL,hq.out] at hi;simp at hi;by_cases e:i<q;(exact I3.out i y h0 (by rw[hq.out];exact e) hy);(have:i=q:=by omega);(rw[this,hcq'.out] at hy;cases hy;exact c3.out),ρB,G1.below ρE,F'.step0 ρE⟩
    case measure=>exact ξc
end Go.Proofs.YtfdlemkplejdnaaGreat
