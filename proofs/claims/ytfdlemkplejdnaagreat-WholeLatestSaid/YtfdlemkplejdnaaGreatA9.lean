/- WholeLatest, part 9. Conditions: none. -/
import Derived.Test.YtfdlemkplejdnaaGreatA3
import Derived.Test.YtfdlemkplejdnaaGreatA4
import Derived.Test.YtfdlemkplejdnaaGreatA5
namespace Go.Proofs.YtfdlemkplejdnaaGreat
open Go.RowKit Go.Sort
open Value renaming int->ι,pointer->ψ,slice->ζ,tuple->χ,agg->φ,map->μ,bool->β
open IntKind renaming u64->υ,i64->ε,u16->ω
open Ending renaming returned->ϰ
open Go.Proofs.Tryz renaming prog->Ψ,underlying3->Θ,underlying147->Δ,underlying152->Γ,underlying202->Φ,underlying39->Ξ,underlying207->Ω
open Go renaming World->ϖ,Value->ϗ
set_option linter.unusedVariables false
set_option linter.unusedSimpArgs false
set_option maxHeartbeats 8000000
set_option maxRecDepth 100000
def JB (n d v e:Int):Prop:=(d=0/\v=0/\e=1)\/(1<=d/\hi (n / d)≠0/\v=0/\e=20)\/(1<=d/\hi (n / d)=0/\v=lo (n / d)/\e=0)
def up (n d:Int):Int:=if n % d=0 then n / d else n / d+1
def qe (n d v e:Int):Prop:=(d=0/\v=0/\e=1)\/(1<=d/\hi (up n d)≠0/\v=0/\e=20)\/(1<=d/\hi (up n d)=0/\v=lo (up n d)/\e=0)
theorem JB.ex (n d:Int)(hd:0<=d):∃v e,JB n d v e:=by
 by_cases h:d=0
 ·exact⟨0,1,.inl ⟨h,rfl,rfl⟩⟩
 ·by_cases h2:hi (n / d)=0
  ·exact⟨lo (n / d),0,.inr (.inr ⟨by omega,h2,rfl,rfl⟩)⟩
  ·exact⟨0,20,.inr (.inl ⟨by omega,h2,rfl,rfl⟩)⟩
theorem qe.ex (n d:Int)(hd:0<=d):∃v e,qe n d v e:=by
 by_cases h:d=0
 ·exact⟨0,1,.inl ⟨h,rfl,rfl⟩⟩
 ·by_cases h2:hi (up n d)=0
  ·exact⟨lo (up n d),0,.inr (.inr ⟨by omega,h2,rfl,rfl⟩)⟩
  ·exact⟨0,20,.inr (.inl ⟨by omega,h2,rfl,rfl⟩)⟩
theorem mh {n d:Int} (hn:ai n)(hd:1<=d):ai (n / d)/\0<=n % d/\n % d<d:=by have h1:=Int.ediv_le_self d hn.1;have h2:=Int.ediv_nonneg hn.1 (show 0<=d by omega);exact⟨⟨h2,by have:=hn.2;omega⟩,Int.emod_nonneg n ρa,Int.emod_lt_of_pos n ρa⟩
theorem AF {n d:Int} (hn:ai n)(hd:1<=d):ai (n / d+1)\/n % d=0:=by
 by_cases h:n % d=0
 ·exact .inr h
 ·left;have Np:2<=d:=by
   rcases Int.lt_or_le d 2 with h2|h2
   ·have:d=1:=by omega
    subst this;omega
   ·exact h2
  have h0:=Int.ediv_nonneg hn.1 (show 0<=d by omega);have h1:n / d*2<=n:=Int.le_trans (qU Np h0) (Int.ediv_mul_le n ρa);unfold ai at*;omega
theorem Dz (a b q r:Int)(w:ϖ)(ha:ai a)(hb:1<=b)(f':b<=Ma)(hq:a / b=q)(hr:a % b=r):
  CB 288 #[wv a,b] w (χ #[wv q,r,Kz]):=by subst hq hr;exact Jq a b w ha hb f'
theorem vF (a b q r:Int)(w:ϖ)(ha:ai a)(hb:1<=b)(f':b<=Ma)(hq:a / b=q)(hr:a % b=r):
  CB 58 #[nv a,b] w (χ #[nv q,r]):=by subst hq hr;exact wX a b w ha hb f'
theorem Dx {x y:ϗ} {a b c:Int} (hx:x=wv a)(hy:y=wv b)(hc:a+b=c)(w:ϖ)(ha:ai a)(hb:ai b)(KU:ai c):
  CB 249 #[x,y] w (χ #[wv c,dO]):=by
 subst hx hy hc;have:=HW a b w ha hb;rw[fI KU,qF (by unfold ai at KU;omega)] at this;exact this
theorem HZ (a c:Int)(w:ϖ)(ha:ai a)(hc:a+1=c)(KU:ai c):
  CB 249 #[wv a,wv 1] w (χ #[wv c,dO]):=Dx rfl rfl hc w ha ρz KU
theorem wO (q:Int)(w:ϖ)(h:hi q=0):
  CB 289 #[wv q] w (χ #[(lo q),Kz]):=by
 have b1:(hi q !=0)=false:=by simp[h]
 clear h;unfold CB;go_in;go_wp2;go_returns;exact⟨rfl,ρE⟩
theorem wN (q:Int)(w:ϖ)(h:hi q≠0):
  CB 289 #[wv q] w (χ #[Ky,ι ε 20]):=by
 have b1:(hi q !=0)=true:=bne_iff_ne.2 h;clear h;unfold CB;go_in;go_wp2;go_returns;exact⟨rfl,ρE⟩
theorem rx (q v e:Int)(w:ϖ)(h:(hi q≠0/\v=0/\e=20)\/(hi q=0/\v=lo q/\e=0)):Calls Ψ 289 #[wv q] w λx w'=>x=ϰ (χ #[v,ι ε e])/\Below w w w':=by
 rcases h with ⟨h,rfl,rfl⟩|⟨h,rfl,rfl⟩
 ·exact wN q w h
 ·exact wO q w h
theorem Ib (A:Int)(w:ϖ):
  CB 288 #[wv A,Ky] w (χ #[φ #[Ky,Ky],Ky,Ko]):=by
 have:=Ia A w;rw[show wv 0=φ #[Ky,Ky] from(vR ρa ρa ρa).symm] at this;exact this
theorem DQ (n d v e:Int)(w:ϖ)(hn:ai n)(hd:an d)(h:qe n d v e):Calls Ψ 276 #[wv n,d] w λx w'=>x=ϰ (χ #[v,ι ε e])/\Below w w w':=by
 by_cases h0:d=0
 ·obtain⟨rfl,rfl⟩:v=0/\e=1:=by rcases h with h|h|h<;>omega
  subst h0;clear h;go_in;go_wp2_with fail;refine(Ib n _).mono ?_;refine δE ?_;intro w1 g1 KN;go_wp2;go_returns;exact⟨rfl,ρE⟩
 ·have OT:1<=d:=by omega
  have hN:(hi (up n d)≠0/\v=0/\e=20)\/(hi (up n d)=0/\v=lo (up n d)/\e=0):=by
   rcases h with h|h|h
   ·omega
   ·exact .inl h.2
   ·exact .inr h.2
  have PH:=(mh hn OT).1;have hu:=AF hn OT;by_cases hz:n % d=0
  ·rw[show up n d=n / d by unfold up;rw[qP hz]] at hN;obtain⟨q,hq⟩:=Nq (n / d);rw[hq] at hN;have Hq:=ag hq;have Hr:=ag hz;have HN:=ag hN;clear h h0 hq hz hN hu;go_in;go_wp2_with fail;refine(Dz n d q 0 _ hn OT hd.2 Hq.out Hr.out).mono ?_;refine δE ?_;intro w1 g1 KN;go_wp2_with fail;refine(rx q v e _ HN.out).mono ?_;rintro e w2 ⟨rfl,Kx⟩;refine η9 ?_;intro g2 Li;clear Kx;go_wp2;go_returns;exact⟨rfl,ρE⟩
  ·rw[show up n d=n / d+1 by unfold up;rw[qI hz]] at hN;have UZ:ai (n / d+1):=by rcases hu with hu|hu;exact hu;exact ax hu hz
   obtain⟨q,hq⟩:=Nq (n / d);obtain⟨r,hr⟩:=Nq (n % d);rw[hq] at hN UZ PH;have rb:(r !=0)=true:=by rw[<- hr];exact bne_iff_ne.2 hz
   obtain⟨q1,LZ⟩:=Nq (q+1);rw[LZ] at hN UZ;have Hq:=ag hq;have Hr:=ag hr;have HN:=ag hN;have Hq1:=ag LZ;clear h h0 hq hr hz hN hu LZ;go_in;go_wp2_with fail;refine(Dz n d q r _ hn OT hd.2 Hq.out Hr.out).mono ?_;refine δE ?_;intro w1 g1 KN;go_wp2_with fail;go_region_with (first
     | (go_at_call 241;(with_reducible refine(JJ 1 _ ρa ρa).mono ?_);refine bf ?_;intro w' f' KK KJ;have Mj:ah w' w1 (mV q) 232:=Zv f';have rQ:=Mj.r;clear f')
     | (go_at_call 249;(with_reducible refine(HZ q q1 _ PH Hq1.out UZ).mono ?_);refine bf ?_;intro w' f' KK KJ;have Mj:ah w' w1 (mV q) 232:=Zv f';have rQ:=Mj.r;clear f'))
   all_goals
    go_wp2_with fail;refine(rx q1 v e _ HN.out).mono ?_;rintro e w4 ⟨rfl,MV⟩;have g4:=Tg w MV;have Sc:=MV.size;(try simp at Sc);clear MV;go_wp2;go_returns;exact⟨rfl,ρE⟩
theorem kG (a b c:Int)(w:ϖ)(ha:ai a)(hb:ai b)(hs:a+b=c)(hc:ai c):
  CB 59 #[nv a,nv b] w (nv c):=fw rfl rfl w ha hb hs hc
theorem Ci (n:Int)(w:ϖ):
  CB 36 #[nv n,Ky] w (φ #[Ky,Ko]):=by
 unfold CB;go_in;go_wp2;go_returns;exact⟨rfl,ρE⟩
theorem zc (n d:Int)(q:Int)(w:ϖ)(hn:ai n)(OT:1<=d)(Np:d<=Ma)(hq:n / d=q)(hr:n % d=0)(hh:hi q≠0):
  CB 36 #[nv n,d] w (φ #[ι υ (0),ι ε 20]):=by
 have d0:(d==0)=false:=qN.2 ρa;have b0:(hi q !=0)=true:=bne_iff_ne.2 hh;have Hq:=ag hq;have Hr:=ag hr;clear hq hr hh;unfold CB;go_in;go_wp2_with fail;refine(vF n d q 0 _ hn OT Np Hq.out Hr.out).mono ?_;refine δA ?_;intro w1 Kr A1 R1;refine η0 ?_;intro g1 KN;clear Kr;have Rr:=θ2 A1.r R1.r;go_wp2_with fail;refine(Gw q _).mono ?_;rintro e w2 ⟨rfl,Kx⟩;have A2:=A1.tr Kx;have R2:=R1.tr Kx;have Q2:ah w2 w1 (bw q) 70:=Zv Kx;refine η9 ?_;intro g2 Li;clear Kx;replace Rr:=θ3 A2.r R2.r Q2.r;go_wp2;exact Eb (w+1) #[ι υ (0),ι ε (20)] 104 rfl τa
theorem zd (n d:Int)(q:Int)(w:ϖ)(hn:ai n)(OT:1<=d)(Np:d<=Ma)(hq:n / d=q)(hr:n % d=0)(hh:hi q=0):
  CB 36 #[nv n,d] w (φ #[(lo q),Kz]):=by
 have d0:(d==0)=false:=qN.2 ρa;have b0:(hi q !=0)=false:=by simp[hh]
 have Hq:=ag hq;have Hr:=ag hr;clear hq hr hh;unfold CB;go_in;go_wp2_with fail;refine(vF n d q 0 _ hn OT Np Hq.out Hr.out).mono ?_;refine δA ?_;intro w1 Kr A1 R1;refine η0 ?_;intro g1 KN;clear Kr;have Rr:=θ2 A1.r R1.r;go_wp2_with fail;refine(Gw q _).mono ?_;rintro e w2 ⟨rfl,Kx⟩;have A2:=A1.tr Kx;have R2:=R1.tr Kx;have Q2:ah w2 w1 (bw q) 70:=Zv Kx;refine η9 ?_;intro g2 Li;clear Kx;replace Rr:=θ3 A2.r R2.r Q2.r;go_wp2_with fail;refine(I5 q _).mono ?_;rintro e w3 ⟨rfl,Lw⟩;have A3:=A2.tr Lw;have R3:=R2.tr Lw;have Q3:=Q2.tr Lw;refine δZ ?_;intro g3 NW;clear Lw;replace Rr:=θ3 A3.r R3.r Q3.r;go_wp2;exact Eb (w+1) #[(lo q),ι ε (0)] 104 rfl τa
theorem yY (n d:Int)(q r q1:Int)(w:ϖ)(hn:ai n)(OT:1<=d)(Np:d<=Ma)(hq:n / d=q)(hr:n % d=r)(rb:(r !=0)=true)(rp:0<r)(LZ:q+1=q1)(PH:ai q)(hu:ai q1)(hh:hi q1≠0):
  CB 36 #[nv n,d] w (φ #[ι υ (0),ι ε 20]):=by
 have d0:(d==0)=false:=qN.2 ρa;have b0:(hi q1 !=0)=true:=bne_iff_ne.2 hh;have Hq:=ag hq;have Hr:=ag hr;clear hq hr hh;have Hq1:=ag LZ;clear LZ;have dr:decide (0<r)=true:=qT rp;unfold CB;go_in;go_wp2_with fail;refine(vF n d q r _ hn OT Np Hq.out Hr.out).mono ?_;refine δA ?_;intro w1 Kr A1 R1;refine η0 ?_;intro g1 KN;clear Kr;have Rr:=θ2 A1.r R1.r;go_wp2_with fail;go_region_with (first
   | (go_at_call 60;(with_reducible refine(Cg 1 _ ρa ρa).mono ?_);refine bf ?_;intro w' f' KK KJ;have KA:=A1.tr f';have rA:=KA.r;have KT:=R1.tr f';have rR:=KT.r;have Mj:ah w' w1 (bw q) 70:=Zv f';have rQ:=Mj.r;clear f')
   | (go_at_call 59;(with_reducible refine(kG q 1 q1 _ PH ρz Hq1.out hu).mono ?_);refine bf ?_;intro w' f' KK KJ;have KA:=A1.tr f';have rA:=KA.r;have KT:=R1.tr f';have rR:=KT.r;have Mj:ah w' w1 (bw q) 70:=Zv f';have rQ:=Mj.r;clear f'))
 all_goals
  go_wp2_with fail;refine(Gw q1 _).mono ?_;rintro e w4 ⟨rfl,MV⟩;have A4:=A1.tr MV;have R4:=R1.tr MV;have Q4:ah w4 w1 (bw q1) 70:=Zv MV;have g4:=Tg w MV;have Sc:=MV.size;(try simp at Sc);clear MV;replace Rr:=θ3 A4.r R4.r Q4.r;go_wp2;exact Eb (w+1) #[ι υ (0),ι ε (20)] 104 rfl τa
theorem yZ (n d:Int)(q r q1:Int)(w:ϖ)(hn:ai n)(OT:1<=d)(Np:d<=Ma)(hq:n / d=q)(hr:n % d=r)(rb:(r !=0)=true)(rp:0<r)(LZ:q+1=q1)(PH:ai q)(hu:ai q1)(hh:hi q1=0):
  CB 36 #[nv n,d] w (φ #[(lo q1),Kz]):=by
 have d0:(d==0)=false:=qN.2 ρa;have b0:(hi q1 !=0)=false:=by simp[hh]
 have Hq:=ag hq;have Hr:=ag hr;clear hq hr hh;have Hq1:=ag LZ;clear LZ;have dr:decide (0<r)=true:=qT rp;unfold CB;go_in;go_wp2_with fail;refine(vF n d q r _ hn OT Np Hq.out Hr.out).mono ?_;refine δA ?_;intro w1 Kr A1 R1;refine η0 ?_;intro g1 KN;clear Kr;have Rr:=θ2 A1.r R1.r;go_wp2_with fail;go_region_with (first
   | (go_at_call 60;(with_reducible refine(Cg 1 _ ρa ρa).mono ?_);refine bf ?_;intro w' f' KK KJ;have KA:=A1.tr f';have rA:=KA.r;have KT:=R1.tr f';have rR:=KT.r;have Mj:ah w' w1 (bw q) 70:=Zv f';have rQ:=Mj.r;clear f')
   | (go_at_call 59;(with_reducible refine(kG q 1 q1 _ PH ρz Hq1.out hu).mono ?_);refine bf ?_;intro w' f' KK KJ;have KA:=A1.tr f';have rA:=KA.r;have KT:=R1.tr f';have rR:=KT.r;have Mj:ah w' w1 (bw q) 70:=Zv f';have rQ:=Mj.r;clear f'))
 all_goals
  go_wp2_with fail;refine(Gw q1 _).mono ?_;rintro e w4 ⟨rfl,MV⟩;have A4:=A1.tr MV;have R4:=R1.tr MV;have Q4:ah w4 w1 (bw q1) 70:=Zv MV;have g4:=Tg w MV;have Sc:=MV.size;(try simp at Sc);clear MV;replace Rr:=θ3 A4.r R4.r Q4.r;go_wp2_with fail;refine(I5 q1 _).mono ?_;rintro e w5 ⟨rfl,Lq⟩;have A5:=A4.tr Lq;have R5:=R4.tr Lq;have Q5:=Q4.tr Lq;have g5:=Tg w Lq;have SK:=Lq.size;(try simp at SK);clear Lq;replace Rr:=θ3 A5.r R5.r Q5.r;go_wp2;exact Eb (w+1) #[(lo q1),ι ε (0)] 104 rfl τa
theorem pG (n d x y:Int)(w:ϖ)(hn:ai n)(hd:an d)(h:qe n d x y):
  CB 36 #[nv n,d] w (φ #[x,ι ε y]):=by
 rcases h with ⟨rfl,rfl,rfl⟩|⟨OT,hh,rfl,rfl⟩|⟨OT,hh,rfl,rfl⟩
 ·exact Ci n w
 ·have PH:=(mh hn OT).1;by_cases hz:n % d=0
  ·rw[show up n d=n / d by unfold up;rw[qP hz]] at hh;exact zc n d (n / d) w hn OT hd.2 rfl hz hh
  ·rw[show up n d=n / d+1 by unfold up;rw[qI hz]] at hh;exact yY n d (n / d) (n % d) (n / d+1) w hn OT hd.2 rfl rfl (bne_iff_ne.2 hz) (by have:=(mh hn OT).2;omega) rfl PH (by rcases AF hn OT with hu|hu;exact hu;exact ax hu hz) hh
 ·have PH:=(mh hn OT).1;by_cases hz:n % d=0
  ·rw[show up n d=n / d by unfold up;rw[qP hz]] at hh ⊢;exact zd n d (n / d) w hn OT hd.2 rfl hz hh
  ·rw[show up n d=n / d+1 by unfold up;rw[qI hz]] at hh ⊢;exact yZ n d (n / d) (n % d) (n / d+1) w hn OT hd.2 rfl rfl (bne_iff_ne.2 hz) (by have:=(mh hn OT).2;omega) rfl PH (by rcases AF hn OT with hu|hu;exact hu;exact ax hu hz) hh
theorem gF (a b p:Int)(w:ϖ)(ha:an a)(hb:an b)(hp:a*b=p):
  CB 211 #[a,b] w (wv p):=by subst hp;exact Jr a b w ha.1 ha.2 hb.1 hb.2
theorem iD {a b p:Int} (ha:an a)(hb:an b)(hp:a*b=p):ai p:=by have:=kE a b ha.1 ha.2 hb.1 hb.2;rw[hp] at this;unfold ai;omega
theorem oP (a b k:Int)(w:ϖ)(ha:ai a)(hb:ai b)(h:lq a b=k):
  CB 235 #[wv a,wv b] w (ι ε k):=by subst h;exact AH a b w ha hb
theorem jv (m d n:Int)(w:ϖ)(h:0<=m/\0<=d/\0<=n)(b:Bool)(hb:(kd m d n !=0)=b):
  CB 182 #[φ (aH m d n)] w (β b):=by
 subst hb;unfold CB;go_in;go_wp2_with fail;refine(bS m d n _ _ h.1 h.2.1 h.2.2 rfl).mono ?_;refine δE ?_;intro w1 g1 KN;go_wp2;go_ret;exact⟨rfl,ρE⟩
theorem AG (a b c:Int)(w:ϖ)(ha:ai a)(hb:ai b)(hc:a+b=c)(KU:ai c):
  CB 249 #[wv a,wv b] w (χ #[wv c,dO]):=Dx rfl rfl hc w ha hb KU
theorem tc (a x b p:Int)(w:ϖ)(ha:an a)(hb:an b)(hx:x=b)(hp:a*b=p):
  CB 211 #[a,x] w (wv p):=by subst hx;exact gF a x p w ha hb hp
theorem ut (m d n t p q s:Int)(w:ϖ)(hm:np m)(hd:lg d)(hn:np n)(ht:an t)(hk:(kd m d n !=0)=true)(hh:d<t)(hp:m*d=p)(hq:n*(t - d)=q)(hs:p+q=s)(s1:ai s):
  CB 239 #[φ (aH m d n),t] w (wv s):=by
 have p1:ai p:=iD ρa ρa hp;have q1:ai q:=iD ρa ρa hq;have Hw:=ag (show IntKind.u64.wrap (t - d)=(t - d) from qZ _ ⟨by omega,by omega⟩);have Hp:=ag hp;have Hq:=ag hq;have Hs:=ag hs;clear hp hq hs;unfold CB;go_in;go_wp2_with fail;refine(jv m d n _ ⟨hm.1,hd.1,hn.1⟩ true hk).mono ?_;refine δ2 ?_;intro w1 C1 R1 g1 KN Rr;go_upto_region 4 with (fail);go_cut [6,7] (λp6 p7 wx=>∃X:Nat,p6=X/\p7=dO/\Below w w wx/\ah wx (w+1) #[Ky,Ky] 232/\ah wx X (mV s) 232);case first=>
  go_region_held3 (λv=>Bk v w (aH m d n) 41/\Below w w v) (exact ρH)
   (first
    | (go_at_call 211;(with_reducible refine(gF m d p _ ρa ρa Hp.out).mono ?_);refine bf ?_;intro w' f' KK KJ;(try have hX:=Xb f');(try simp only[World.size_alloc] at hX);(try have rX:=hX.r);have KT:=R1.tr f';have rR:=KT.r)
    | (go_at_call 211;(with_reducible refine(tc n _ (t - d) q _ ρa ρa τI Hq.out).mono ?_);refine bf ?_;intro w' f' KK KJ;(try have hX:=Xb f');(try simp only[World.size_alloc] at hX);(try have rX:=hX.r);have KT:=R1.tr f';have rR:=KT.r)
    | (go_at_call 249;(with_reducible refine(AG p q s _ p1 q1 Hs.out s1).mono ?_);refine bf ?_;intro w' f' KK KJ;(try have hX:=Xb f');(try simp only[World.size_alloc] at hX);(try have rX:=hX.r);have KT:=R1.tr f';have rR:=KT.r))
  all_goals
   (try go_split_ands);go_wp2;go_meet;exact⟨_,rfl,rfl,ρE,ρB,ρB⟩
 case rest=>
  exact ηv
theorem uu (m d n t p q s:Int)(w:ϖ)(hm:np m)(hd:lg d)(hn:np n)(ht:an t)(hk:(kd m d n !=0)=true)(hh:t<=d)(hp:m*t=p)(hq:n*0=q)(hs:p+q=s)(s1:ai s):
  CB 239 #[φ (aH m d n),t] w (wv s):=by
 have p1:ai p:=iD ρa ρa hp;have q1:ai q:=iD ρa ρa hq;have Hw:=ag (show IntKind.u64.wrap 0=0 from qZ _ ⟨by omega,by omega⟩);have Hp:=ag hp;have Hq:=ag hq;have Hs:=ag hs;clear hp hq hs;unfold CB;go_in;go_wp2_with fail;refine(jv m d n _ ⟨hm.1,hd.1,hn.1⟩ true hk).mono ?_;refine δ2 ?_;intro w1 C1 R1 g1 KN Rr;go_upto_region 4 with (fail);go_cut [6,7] (λp6 p7 wx=>∃X:Nat,p6=X/\p7=dO/\Below w w wx/\ah wx (w+1) #[Ky,Ky] 232/\ah wx X (mV s) 232);case first=>
  go_region_held3 (λv=>Bk v w (aH m d n) 41/\Below w w v) (exact ρH)
   (first
    | (go_at_call 211;(with_reducible refine(gF m t p _ ρa ρa Hp.out).mono ?_);refine bf ?_;intro w' f' KK KJ;(try have hX:=Xb f');(try simp only[World.size_alloc] at hX);(try have rX:=hX.r);have KT:=R1.tr f';have rR:=KT.r)
    | (go_at_call 211;(with_reducible refine(tc n _ 0 q _ ρa ρa τI Hq.out).mono ?_);refine bf ?_;intro w' f' KK KJ;(try have hX:=Xb f');(try simp only[World.size_alloc] at hX);(try have rX:=hX.r);have KT:=R1.tr f';have rR:=KT.r)
    | (go_at_call 249;(with_reducible refine(AG p q s _ p1 q1 Hs.out s1).mono ?_);refine bf ?_;intro w' f' KK KJ;(try have hX:=Xb f');(try simp only[World.size_alloc] at hX);(try have rX:=hX.r);have KT:=R1.tr f';have rR:=KT.r))
  all_goals
   (try go_split_ands);go_wp2;go_meet;exact⟨_,rfl,rfl,ρE,ρB,ρB⟩
 case rest=>
  exact ηv
theorem Ie (a b c:Int)(w:ϖ)(ha:ai a)(hb:ai b)(hc:a - b=c)(KU:ai c):
  CB 275 #[wv a,wv b] w (χ #[wv c,dO]):=by
 have:=Js a b w ha hb;rw[hc,fI KU,qF (by unfold ai at KU;omega)] at this;exact this
theorem gk {m d n:Int} (h:kd m d n≠0):m<=Md/\n<=Md/\d<=1048576:=by unfold kd at h;(repeat' split at h)<;>omega
def sv (m d n t:Int):Int:=if t<=d then m*t else m*d+n*(t - d)
def sk (m d n t:Int):Int:=if kd m d n=0 then 0 else sv m d n t
theorem mP {m d n t:Int} (hm:np m)(hd:0<=d)(hn:np n)(ht:0<=t):0<=sv m d n t/\sv m d n t<=Md*t:=by
 unfold sv;split
 ·exact⟨Int.mul_nonneg hm.1 ht,Int.mul_le_mul_of_nonneg_right hm.2 ht⟩
 ·have h1:=Int.mul_nonneg hm.1 hd;have h2:=Int.mul_nonneg hn.1 (show 0<=t - d by omega);have h3:=Int.mul_le_mul_of_nonneg_right hm.2 hd;have h4:=Int.mul_le_mul_of_nonneg_right hn.2 (show 0<=t - d by omega);omega
theorem Ak {m d n t:Int} (hm:0<=m)(hd:0<=d)(hn:0<=n)(ht:0<=t):0<=sk m d n t/\sk m d n t<=Md*t:=by
 unfold sk;split
 ·omega
 ·rename_i h;have:=gk h;exact mP ⟨hm,this.1⟩ hd ⟨hn,this.2.1⟩ ht
theorem Aj {m d n t:Int} (hm:0<=m)(hd:0<=d)(hn:0<=n)(ht:0<=t)(ht':t<=Ma):ai (sk m d n t):=by have:=Ak hm hd hn ht;unfold ai;omega
theorem ux (m d n t:Int):sv m d n t=n*t+(m - n)*min t d:=by
 unfold sv;split
 ·rw[Int.min_eq_left (by assumption),Int.sub_mul];omega
 ·rw[Int.min_eq_right ρa,Int.sub_mul,Int.mul_sub];omega
theorem vL {m d n t u:Int} (hm:0<=m)(hn:0<=n)(h:t<=u):sv m d n t<=sv m d n u:=by
 unfold sv;split<;>split
 ·exact qU h hm
 ·have h1:=qU (show t<=d by omega) hm;have h2:=Int.mul_nonneg hn (show 0<=u - d by omega);omega
 ·omega
 ·have h2:=qU (show t - d<=u - d by omega) hn;omega
theorem ig {s m:Int} (hs:0<=s)(hm:1<=m):s<=m*up s m/\(0<s->1<=up s m/\m*(up s m - 1)<s)/\0<=up s m:=by
 have h1:=Int.mul_ediv_add_emod s m;have h2:=Int.emod_nonneg s (show m≠0 by omega);have h3:=Int.emod_lt_of_pos s (show 0<m by omega);have h4:=Int.ediv_nonneg hs (show 0<=m by omega);unfold up;split
 ·refine⟨by omega,λh=>?_,h4⟩;have:s / m≠0:=by intro h0;rw[h0] at h1;omega
  refine⟨by omega,?_⟩;rw[Int.mul_sub];omega
 ·refine⟨by rw[Int.mul_add];omega,λh=>⟨by omega,?_⟩,by omega⟩;rw[show s / m+1 - 1=s / m by omega];omega
theorem Dw {s m k:Int} (hs:0<=s)(hm:1<=m)(hk:0<=k)(h:s<=m*k):up s m<=k:=by
 rcases Int.lt_or_le 0 s with h0|h0
 ·have:=(ig hs hm).2.1 h0;by_cases hc:up s m<=k
  ·exact hc
  ·have h2:=qU (show k<=up s m - 1 by omega) (show 0<=m by omega);omega
 ·have:s=0:=by omega
  subst this;unfold up;simp;exact hk
def ov (s m x:Int):Int:=if m=0\/Mc<=x+up s m then Mc else x+up s m
theorem t7 {s m x:Int} (hs:0<=s)(hm:0<=m)(hx:0<=x):0<=ov s m x/\ov s m x<=Mc:=by
 unfold ov;split
 ·omega
 ·have:=(ig hs (show 1<=m by omega)).2.2;omega
def tk (m d n W:Int):Int:=if kd m d n=0 then Mc else if W=0 then 0 else if W<=m*d then ov W m 0 else ov (W - m*d) n d
theorem Cw (m d n:Int):sv m d n d=m*d:=by unfold sv;rw[qP (qJ _)]
theorem uG {m d n W:Int} (hm:0<=m)(hd:0<=d)(hn:0<=n)(hW:0<=W):0<=tk m d n W/\tk m d n W<=Mc:=by
 unfold tk;split
 ·omega
 ·split
  ·omega
  ·split
   ·exact t7 hW hm ρa
   ·exact t7 ρa hn hd
theorem Cz {m d n W:Int} (hm:0<=m)(hd:0<=d)(hn:0<=n)(hW:0<=W)(h:tk m d n W≠Mc):W<=sk m d n (tk m d n W)/\(0<tk m d n W->sk m d n (tk m d n W - 1)<W):=by
 unfold tk at h ⊢;split at h
 ·omega
 rename_i hk;rw[qI hk];unfold sk;rw[qI hk,qI hk];split at h
 ·rename_i h0;rw[qP h0];refine⟨?_,by omega⟩;unfold sv;rw[qP hd];omega
 rename_i h0;rw[qI h0];split at h
 ·rename_i h1;rw[qP h1];unfold ov at h ⊢;split at h
  ·omega
  rename_i h2;rw[qI h2];have hm1:1<=m:=ρa;have hu:=ig hW hm1;have hl:=Dw hW hm1 hd h1;have h3:=hu.2.1 ρa;refine⟨?_,λ_=>?_⟩
  ·unfold sv;rw[qP ρa,Int.zero_add];exact hu.1
  ·unfold sv;rw[qP ρa,Int.zero_add];exact h3.2
 ·rename_i h1;rw[qI h1];unfold ov at h ⊢;split at h
  ·omega
  rename_i h2;rw[qI h2];have Ph:1<=n:=ρa;have hu:=ig (s:=W - m*d) ρa Ph;have h3:=hu.2.1 ρa;refine⟨?_,λ_=>?_⟩
  ·unfold sv;rw[qI ρa,show d+up (W - m*d) n - d=up (W - m*d) n by omega];omega
  ·unfold sv;split
   ·rw[show d+up (W - m*d) n - 1=d by omega];omega
   ·rw[show d+up (W - m*d) n - 1 - d=up (W - m*d) n - 1 by omega];omega
theorem DT {a b:Int} (h:a<=b):decide (lq a b<=0)=true:=by unfold lq;(repeat' split)<;>simp<;>omega
theorem JK:Value.agg #[Ky,Ky]=wv 0:=vR ρa ρa ρa
theorem JH:Value.agg gc=nv 0:=i9 ρa ρa ρa ρa ρa
theorem kS (a b p:Int)(w:ϖ)(ha:an a)(hb:an b)(hp:a*b=p):
  CB 38 #[a,b] w (nv p):=by subst hp;exact I7 a b w ha.1 ha.2 hb.1 hb.2
theorem Gx (a x b p:Int)(w:ϖ)(ha:an a)(hb:an b)(hx:x=b)(hp:a*b=p):
  CB 38 #[a,x] w (nv p):=by subst hx;exact kS a x p w ha hb hp
theorem pE (a b:Int)(c:Bool)(w:ϖ)(ha:ai a)(hb:ai b)(hc:decide (a<b)=c):
  CB 23 #[nv a,nv b] w (β c):=by subst hc;exact yX a b w ha hb
theorem sF (m d n t:Int)(w:ϖ)(hm:0<=m)(hd:0<=d)(hn:0<=n)(hk:(kd m d n !=0)=false):
  CB 239 #[φ (aH m d n),t] w (wv 0):=by
 unfold CB;go_in;go_wp2_with fail;refine(jv m d n _ ⟨hm,hd,hn⟩ false hk).mono ?_;refine δ2 ?_;intro w1 C1 R1 g1 KN Rr;go_wp2;exact Eb (w+1) #[Ky,Ky] 232 (by rw[JK]) τP
theorem sC (m d n t s:Int)(w:ϖ)(hm:0<=m)(hd:0<=d)(hn:0<=n)(ht:an t)(hs:sk m d n t=s):
  CB 239 #[φ (aH m d n),t] w (wv s):=by
 by_cases hk:kd m d n=0
 ·have:s=0:=by rw[<- hs];unfold sk;rw[qP hk]
  subst this;exact sF m d n t w hm hd hn (by simp[hk])
 ·have VQ:(kd m d n !=0)=true:=bne_iff_ne.2 hk;obtain⟨m1,n1,d1⟩:=gk hk;have Nj:=Aj hm hd hn ht.1 ht.2;rw[hs] at Nj;unfold sk sv at hs;rw[qI hk] at hs;by_cases h:t<=d
  ·rw[qP h] at hs;exact uu m d n t s 0 s w ⟨hm,m1⟩ ⟨hd,d1⟩ ⟨hn,n1⟩ ht VQ h hs (Int.mul_zero n) (Int.add_zero s) Nj
  ·rw[qI h] at hs;exact ut m d n t _ _ s w ⟨hm,m1⟩ ⟨hd,d1⟩ ⟨hn,n1⟩ ht VQ ρa rfl rfl hs Nj
theorem pI (m d n t:Int)(w:ϖ)(hm:0<=m)(hd:0<=d)(hn:0<=n)(hk:kd m d n=0):
  CB 90 #[φ (aH m d n),t] w (nv 0):=by
 have Hk:=ag hk;clear hk;unfold CB;go_in;go_wp2_with fail;refine(bV m d n 0 _ hm hd hn Hk.out).mono ?_;refine δf ?_;intro w1 Kr C1;have R1:ah w1 (w+1) gc 70:=Zv Kr;refine η0 ?_;intro g1 KN;clear Kr;have Rr:=θ2 C1.r R1.r;go_wp2;exact Eb (w+1) gc 70 (by rw[JH]) τT
theorem sj (m d n t s k:Int)(w:ϖ)(hm:np m)(hd:lg d)(hn:np n)(ht:an t)(hk:kd m d n=k)(Nz:(k==0)=false)(hh:t<=d)(hp:m*t=s)(s1:ai s):
  CB 90 #[φ (aH m d n),t] w (nv s):=by
 have Hk:=ag hk;clear hk;have Hp:=ag hp;clear hp;have d1:decide (t<=d)=true:=ρF;unfold CB;go_in;go_wp2_with fail;refine(bV m d n k _ hm.1 hd.1 hn.1 Hk.out).mono ?_;refine δf ?_;intro w1 Kr C1;have R1:ah w1 (w+1) gc 70:=Zv Kr;refine η0 ?_;intro g1 KN;clear Kr;have Rr:=θ2 C1.r R1.r;go_wp2_with fail;refine(kS m t s _ ρa ρa Hp.out).mono ?_;rintro e w2 ⟨rfl,Kx⟩;have C2:=C1.tr Kx;have R2:=R1.tr Kx;refine η9 ?_;intro g2 Li;clear Kx;replace Rr:=θ2 C2.r R2.r;go_wp2;exact Eb (w+1) (bw s) 70 rfl τT
theorem sg (m d n t p q s k:Int)(w:ϖ)(hm:np m)(hd:lg d)(hn:np n)(ht:an t)(hk:kd m d n=k)(Nz:(k==0)=false)(hh:d<t)(hp:m*d=p)(hq:n*(t - d)=q)(hs:p+q=s)(s1:ai s):
  CB 90 #[φ (aH m d n),t] w (nv s):=by
 have Hk:=ag hk;clear hk;have Hp:=ag hp;clear hp;have p1:ai p:=iD ρa ρa Hp.out;have q1:ai q:=iD ρa ρa hq;have Hw:=ag (show IntKind.u64.wrap (t - d)=t - d from qZ _ ⟨by omega,by omega⟩);have Hq:=ag hq;have Hs:=ag hs;clear hq hs;have d1:decide (t<=d)=false:=ρF;unfold CB;go_in;go_wp2_with fail;refine(bV m d n k _ hm.1 hd.1 hn.1 Hk.out).mono ?_;refine δf ?_;intro w1 Kr C1;have R1:ah w1 (w+1) gc 70:=Zv Kr;refine η0 ?_;intro g1 KN;clear Kr;have Rr:=θ2 C1.r R1.r;go_wp2_with fail;go_region_held3 (λv=>Bk v w (aH m d n) 41/\Below w w v) (exact ρH)
  (first
   | (go_at_call 38;(with_reducible refine(kS m d p _ ρa ρa Hp.out).mono ?_);refine bf ?_;intro w' f' KK KJ;have KT:=R1.tr f';have rR:=KT.r)
   | (go_at_call 38;(with_reducible refine(Gx n _ (t - d) q _ ρa ρa τI Hq.out).mono ?_);refine bf ?_;intro w' f' KK KJ;have KT:=R1.tr f';have rR:=KT.r)
   | (go_at_call 59;(with_reducible refine(kG p q s _ p1 q1 Hs.out s1).mono ?_);refine bf ?_;intro w' f' KK KJ;have KT:=R1.tr f';have rR:=KT.r))
 all_goals
  (try go_split_ands);go_wp2;exact Eb (w+1) (bw s) 70 rfl τT
theorem gV (m d n t s:Int)(w:ϖ)(hm:0<=m)(hd:0<=d)(hn:0<=n)(ht:an t)(hs:sk m d n t=s):
  CB 90 #[φ (aH m d n),t] w (nv s):=by
 by_cases hk:kd m d n=0
 ·have:s=0:=by rw[<- hs];unfold sk;rw[qP hk]
  subst this;exact pI m d n t w hm hd hn hk
 ·have VQ:(kd m d n==0)=false:=qN.2 hk;obtain⟨m1,n1,d1⟩:=gk hk;have Nj:=Aj hm hd hn ht.1 ht.2;rw[hs] at Nj;unfold sk sv at hs;rw[qI hk] at hs;by_cases h:t<=d
  ·rw[qP h] at hs;exact sj m d n t s _ w ⟨hm,m1⟩ ⟨hd,d1⟩ ⟨hn,n1⟩ ht rfl VQ h hs Nj
  ·rw[qI h] at hs;exact sg m d n t _ _ s _ w ⟨hm,m1⟩ ⟨hd,d1⟩ ⟨hn,n1⟩ ht rfl VQ ρa rfl rfl hs Nj
theorem Dv {s m:Int} (hs:ai s)(hm:1<=m):0<=up s m/\up s m<=s:=by refine⟨(ig hs.1 hm).2.2,Dw hs.1 hm hs.1 ?_⟩;have:=Int.mul_le_mul_of_nonneg_right hm hs.1;omega
theorem qe.big {s m v e:Int} (hs:ai s)(hm:0<=m)(h:qe s m v e)(he:e≠0):m=0\/Mf<=up s m:=by
 rcases h with ⟨h,_⟩|⟨h,h1,_⟩|⟨_,_,_,h⟩
 ·exact .inl h
 ·have:=Dv hs h;refine .inr ?_;unfold hi at h1;unfold ai at hs;omega
 ·exact ax h he
theorem qe.ok {s m v:Int} (hs:ai s)(h:qe s m v 0):1<=m/\v=up s m/\0<=v/\v<=Ma:=by
 rcases h with ⟨_,_,h⟩|⟨_,_,_,h⟩|⟨h,h1,h2,_⟩
 ·omega
 ·omega
 ·have:=Dv hs h;have:=dX (up s m);refine⟨h,?_,by omega,by omega⟩;rw[h2];unfold hi at h1;unfold lo;unfold ai at hs;omega
theorem Kg (a b:Int)(c:Bool)(ha:ai a)(hb:ai b)(hc:decide (a=b)=c)(v:ϖ):(binOp .eql 232 (wv a) (wv b)).run Ψ v=.ok (β c) v:=by
 have hu:∀w,(isAgg 39).run Ψ w=.ok false w:=λ_=>by kernel_rfl
 have h2:∀(w:ϖ) (x y:Int),(Op.equalIn 9999 39 x y).run Ψ w=.ok (x==y) w:=λw x y=>run_equalIn_int _ _ _ _ _ _ _ Ξ;have hs:∀w,(sizeOf 39).run Ψ w=.ok 1 w:=λ_=>by kernel_rfl
 rw[run_eql_struct,run_equalIn_struct _ 9999 232 _ _ ρi ρi];have e:(hi a==hi b && lo a==lo b)=c:=by rw[<- hc,Bool.eq_iff_iff];simp only[Bool.and_eq_true,beq_iff_eq,decide_eq_true_eq];exact yo ha hb
 subst e;simp[Program.fieldsOf,Tryz.underlying232,go_sem,part,hu,hs,h2];cases h1:(hi a==hi b)<;>cases h3:(lo a==lo b)<;>simp_all
theorem Kh (a:Int)(c:Bool)(ha:ai a)(hc:decide (a=0)=c)(v:ϖ):(binOp .eql 232 (wv a) (φ #[Ky,Ky])).run Ψ v=.ok (β c) v:=by rw[JK];exact Kg a 0 c ha ρz hc v
theorem By {a b:Int} (ha:ai a)(hb:ai b):(aX a=aX b/\ct a=ct b/\iU a=iU b/\jT a=jT b)↔a=b:=by
 constructor
 ·intro h;have h1:=De ha;have h2:=De hb;omega
 ·rintro rfl;exact⟨rfl,rfl,rfl,rfl⟩
theorem neq (a b:Int)(c:Bool)(ha:ai a)(hb:ai b)(hc:decide (a=b)=c)(v:ϖ):(binOp .eql 70 (nv a) (nv b)).run Ψ v=.ok (β c) v:=by refine Ea Ψ v 70 39 .u64 Tryz.underlying70 Ξ ρm ρm _ _ _ _ _ _ _ _ c ?_;rw[<- hc,Bool.eq_iff_iff];simp only[Bool.and_eq_true,beq_iff_eq,decide_eq_true_eq];exact By ha hb
theorem ED (a:Int)(c:Bool)(ha:ai a)(hc:decide (a=0)=c)(v:ϖ):(binOp .eql 70 (nv a) (φ gc)).run Ψ v=.ok (β c) v:=by rw[JH];exact neq a 0 c ha ρz hc v
theorem yL (s m x v e:Int)(w:ϖ)(hs:ai s)(hm:an m)(hx:0<=x/\x<=Mc)(QW:0<=v)(h:qe s m v e)(he:(e !=0)=true):
  CB 91 #[nv s,m,x] w (ι υ Mc):=by
 have H:=ag h;clear h;unfold CB;go_in;go_wp2_with fail;refine(pG s m v e _ hs hm H.out).mono ?_;refine δE ?_;intro w1 g1 KN;go_wp2;go_ret;exact⟨rfl,ρE⟩
theorem yK (s m x v e:Int)(w:ϖ)(hs:ai s)(hm:an m)(hx:0<=x/\x<=Mc)(QW:0<=v)(h:qe s m v e)(he:(e !=0)=false)(hv:Mc - x<=v):
  CB 91 #[nv s,m,x] w (ι υ Mc):=by
 have H:=ag h;clear h;have d1:decide (Mc - x<=v)=true:=qT hv;unfold CB;go_in;go_wp2_with fail;refine(pG s m v e _ hs hm H.out).mono ?_;refine δE ?_;intro w1 g1 KN;go_wp2;go_ret;exact⟨rfl,ρE⟩
theorem BO (s m x v e:Int)(w:ϖ)(hs:ai s)(hm:an m)(hx:0<=x/\x<=Mc)(QW:0<=v)(h:qe s m v e)(he:(e !=0)=false)(hv:v<Mc - x):
  CB 91 #[nv s,m,x] w (ι υ (x+v)):=by
 have H:=ag h;clear h;have d1:=df (Mc - x<=v);unfold CB;go_in;go_wp2_with fail;refine(pG s m v e _ hs hm H.out).mono ?_;refine δE ?_;intro w1 g1 KN;go_wp2;go_ret;exact⟨rfl,ρE⟩
theorem Do (s m x o:Int)(w:ϖ)(hs:ai s)(hm:an m)(hx:0<=x/\x<=Mc)(ho:ov s m x=o):
  CB 91 #[nv s,m,x] w o:=by
 subst ho;obtain⟨v,e,h⟩:=qe.ex s m hm.1;by_cases he:e=0
 ·subst he;have hk:=h.ok hs;by_cases hv:v<Mc - x
  ·rw[show ov s m x=x+v by unfold ov;rw[qI ρa];omega];exact BO s m x v 0 w hs hm hx hk.2.2.1 h rfl hv
  ·rw[show ov s m x=Mc by unfold ov;rw[qP ρa]];exact yK s m x v 0 w hs hm hx hk.2.2.1 h rfl ρa
 ·have hb:=h.big hs hm.1 he;have QW:0<=v:=by rcases h with ⟨_,h,_⟩|⟨_,_,h,_⟩|⟨_,_,_,h⟩<;>omega
  rw[show ov s m x=Mc by unfold ov;rw[qP ρa]];exact yL s m x v e w hs hm hx QW h (bne_iff_ne.2 he)
abbrev lv (X Y M:Int):ϗ:=φ #[ι υ X,ι υ (hi Y),ι υ (lo Y),ι υ M]
def la (X Y M x:Int):Int:=if x<=X then Y else bh (Y+M*(x - X))
theorem Di {X Y M x:Int} (hY:ai Y):ai (la X Y M x):=by unfold la;split;exact hY;exact jF _
def lr (X Y M W:Int):Int:=if W<=Y then 0 else ov (W - Y) M X
theorem Dy (a b c:Int)(o:Bool)(w:ϖ)(ha:ai a)(hb:ai b)(hc:bh (a+b)=c)(ho:decide (340282366920938463463374607431768211456<=a+b)=o):
  CB 249 #[wv a,wv b] w (χ #[wv c,β o]):=by subst hc ho;exact HW a b w ha hb
theorem Es (X Y M x:Int)(w:ϖ)(hX:an X)(hY:ai Y)(hM:an M)(hx:an x)(h:x<=X):
  CB 267 #[lv X Y M,x] w (wv Y):=by
 have d1:decide (x<=X)=true:=qT h;unfold CB;go_in;go_wp2;exact Eb (w+1) (mV Y) 232 rfl (λ_ cv=>(by simp[results,Tryz.results267,go_sem,cv]))
theorem Ep (X Y M x p s:Int)(o:Bool)(w:ϖ)(hX:an X)(hY:ai Y)(hM:an M)(hx:an x)(h:X<x)(hp:M*(x - X)=p)(hs:bh (Y+p)=s)(ho:decide (340282366920938463463374607431768211456<=Y+p)=o):
  CB 267 #[lv X Y M,x] w (wv s):=by
 have d1:=df (x<=X);have p1:ai p:=iD ρa ρa hp;have Hw:=ag (show IntKind.u64.wrap (x - X)=x - X from qZ _ ⟨by omega,by omega⟩);have Hp:=ag hp;have Hs:=ag hs;have Ho:=ag ho;clear hp hs ho;unfold CB;go_in;go_upto_region 3 with (fail);refine aI (λv=>Below w w v/\ah v w #[X,(hi (Y)),(lo (Y)),M] 234/\ah v (w+1) #[Ky,Ky] 232) ⟨ρE,ρB,ρB⟩ ?_;rintro w0 ⟨g0,A0,R0⟩;have Sa:=g0.size;have Rr:=θ2 A0.r R0.r;go_cut [5,6] (λp5 p6 wx=>∃X:Nat,p5=X/\p6=β o/\Below w w wx/\ah wx (w+1) #[Ky,Ky] 232/\ah wx X (mV s) 232);case first=>
  go_region_held3 (λv=>Bk v w #[X,(hi (Y)),(lo (Y)),M] 234/\Below w w v) (exact ρH)
   (first
    | (go_at_call 211;(with_reducible refine(tc M _ (x - X) p _ ρa ρa τI Hp.out).mono ?_);refine bf ?_;intro w' f' KK KJ;(try have hX:=Xb f');(try simp only[World.size_alloc] at hX);(try have rX:=hX.r);have KT:=R0.tr f';have rR:=KT.r)
    | (go_at_call 249;(with_reducible refine(Dy Y p s o _ hY p1 Hs.out Ho.out).mono ?_);refine bf ?_;intro w' f' KK KJ;(try have hX:=Xb f');(try simp only[World.size_alloc] at hX);(try have rX:=hX.r);have KT:=R0.tr f';have rR:=KT.r))
  all_goals
   (try go_split_ands);go_wp2;go_meet;exact⟨_,rfl,rfl,ρE,ρB,ρB⟩
 case rest=>
  clear A0 R0;obtain⟨X,rfl,rfl,g2,R2,X2⟩:=hcut;have cX:=X2.cell;have Ss:=R2.r;have zX:=X2.size;go_wp2;exact Eb (w+1) (mV s) 232 rfl (λ_ cv=>(by simp[results,Tryz.results267,go_sem,cv]))
theorem lat (X Y M x s:Int)(w:ϖ)(hX:an X)(hY:ai Y)(hM:an M)(hx:an x)(hs:la X Y M x=s):
  CB 267 #[lv X Y M,x] w (wv s):=by
 unfold la at hs;by_cases h:x<=X
 ·rw[qP h] at hs;subst hs;exact Es X Y M x w hX hY hM hx h
 ·rw[qI h] at hs;exact Ep X Y M x _ s _ w hX hY hM hx ρa rfl hs rfl
theorem Cj (X Y M W x:Int)(w:ϖ)(hX:an X)(hY:ai Y)(hM:an M)(hW:ai W)(hc:lq W Y=x)(hx:decide (x<=0)=true):
  CB 261 #[lv X Y M,wv W] w Ky:=by
 have Hc:=ag hc;clear hc;unfold CB;go_in;go_wp2_with fail;refine δb ?_;intro w1 Kr A1 W1;refine η0 ?_;intro g1 KN;clear Kr;have Rr:=θ2 A1.r W1.r;go_wp2;go_ret;exact⟨rfl,ρE⟩
theorem Ck (X Y M W x r v e:Int)(w:ϖ)(hX:an X)(hY:ai Y)(hM:an M)(hW:ai W)(hc:lq W Y=x)(hx:decide (x<=0)=false)(hr:W - Y=r)(NA:ai r)(QW:an v)(h:qe r M v e)(he:(e !=0)=true):
  CB 261 #[lv X Y M,wv W] w (ι υ Mc):=by
 have Hc:=ag hc;clear hc;have Hr:=ag hr;have H:=ag h;clear hr h;unfold CB;go_in;go_wp2_with fail;refine δb ?_;intro w1 Kr A1 W1;refine η0 ?_;intro g1 KN;clear Kr;have Rr:=θ2 A1.r W1.r;go_wp2_with fail;refine δG ?_;clear Rr;intro w2 A2 W2 g2 Li Rr;go_wp2_with fail;refine δw ?_;intro w3 A3 g3 NW;replace Rr:=A3.r;go_wp2;go_ret;exact⟨rfl,ρE⟩
theorem Cl (X Y M W x r v e:Int)(w:ϖ)(hX:an X)(hY:ai Y)(hM:an M)(hW:ai W)(hc:lq W Y=x)(hx:decide (x<=0)=false)(hr:W - Y=r)(NA:ai r)(QW:an v)(h:qe r M v e)(he:(e !=0)=false)(h1:Mc<=X):
  CB 261 #[lv X Y M,wv W] w (ι υ Mc):=by
 have Hc:=ag hc;clear hc;have Hr:=ag hr;have H:=ag h;clear hr h;have d1:decide (Mc<=X)=true:=qT h1;unfold CB;go_in;go_wp2_with fail;refine δb ?_;intro w1 Kr A1 W1;refine η0 ?_;intro g1 KN;clear Kr;have Rr:=θ2 A1.r W1.r;go_wp2_with fail;refine δG ?_;clear Rr;intro w2 A2 W2 g2 Li Rr;go_wp2_with fail;refine δw ?_;intro w3 A3 g3 NW;replace Rr:=A3.r;go_wp2;go_ret;exact⟨rfl,ρE⟩
theorem Cm (X Y M W x r v e:Int)(w:ϖ)(hX:an X)(hY:ai Y)(hM:an M)(hW:ai W)(hc:lq W Y=x)(hx:decide (x<=0)=false)(hr:W - Y=r)(NA:ai r)(QW:an v)(h:qe r M v e)(he:(e !=0)=false)(h1:X<Mc)(h2:Mc - X<=v):
  CB 261 #[lv X Y M,wv W] w (ι υ Mc):=by
 have Hc:=ag hc;clear hc;have Hr:=ag hr;have H:=ag h;clear hr h;have d1:=df (Mc<=X);have d2:decide (Mc - X<=v)=true:=qT h2;unfold CB;go_in;go_wp2_with fail;refine δb ?_;intro w1 Kr A1 W1;refine η0 ?_;intro g1 KN;clear Kr;have Rr:=θ2 A1.r W1.r;go_wp2_with fail;refine δG ?_;clear Rr;intro w2 A2 W2 g2 Li Rr;go_wp2_with fail;refine δw ?_;intro w3 A3 g3 NW;replace Rr:=A3.r;go_wp2;go_ret;exact⟨rfl,ρE⟩
theorem Cn (X Y M W x r v e:Int)(w:ϖ)(hX:an X)(hY:ai Y)(hM:an M)(hW:ai W)(hc:lq W Y=x)(hx:decide (x<=0)=false)(hr:W - Y=r)(NA:ai r)(QW:an v)(h:qe r M v e)(he:(e !=0)=false)(h1:X<Mc)(h2:v<Mc - X):
  CB 261 #[lv X Y M,wv W] w (ι υ (X+v)):=by
 have Hc:=ag hc;clear hc;have Hr:=ag hr;have H:=ag h;clear hr h;have d1:=df (Mc<=X);have d2:=df (Mc - X<=v);unfold CB;go_in;go_wp2_with fail;refine δb ?_;intro w1 Kr A1 W1;refine η0 ?_;intro g1 KN;clear Kr;have Rr:=θ2 A1.r W1.r;go_wp2_with fail;refine δG ?_;clear Rr;intro w2 A2 W2 g2 Li Rr;go_wp2_with fail;refine δw ?_;intro w3 A3 g3 NW;replace Rr:=A3.r;go_wp2;go_ret;exact⟨rfl,ρE⟩
theorem yx {X Y M W:Int} (hX:0<=X)(hM:0<=M):0<=lr X Y M W/\lr X Y M W<=Mc:=by
 unfold lr;split
 ·omega
 ·exact t7 ρa hM hX
theorem EA (X Y M W t:Int)(w:ϖ)(hX:an X)(hY:ai Y)(hM:an M)(hW:ai W)(ht:lr X Y M W=t):
  CB 261 #[lv X Y M,wv W] w t:=by
 subst ht;by_cases h0:W<=Y
 ·rw[show lr X Y M W=0 by unfold lr;rw[qP h0]];exact Cj X Y M W _ w hX hY hM hW rfl (DT h0)
 rw[show lr X Y M W=ov (W - Y) M X by unfold lr;rw[qI h0]];have hx:decide (lq W Y<=0)=false:=by unfold lq;rw[qI ρa,qI ρa];rfl
 have NA:ai (W - Y):=by unfold ai at*;omega
 obtain⟨v,e,h⟩:=qe.ex (W - Y) M hM.1;by_cases he:e=0
 ·subst he;have hk:=h.ok NA;by_cases h1:Mc<=X
  ·rw[show ov (W - Y) M X=Mc by unfold ov;rw[qP ρa]];exact Cl X Y M W _ _ v 0 w hX hY hM hW rfl hx rfl NA hk.2.2 h rfl h1
  ·by_cases h2:v<Mc - X
   ·rw[show ov (W - Y) M X=X+v by unfold ov;rw[qI ρa];omega];exact Cn X Y M W _ _ v 0 w hX hY hM hW rfl hx rfl NA hk.2.2 h rfl ρa h2
   ·rw[show ov (W - Y) M X=Mc by unfold ov;rw[qP ρa]];exact Cm X Y M W _ _ v 0 w hX hY hM hW rfl hx rfl NA hk.2.2 h rfl ρa ρa
 ·have hb:=h.big NA hM.1 he;have QW:0<=v/\v<=Ma:=by rcases h with ⟨_,h,_⟩|⟨_,_,h,_⟩|⟨_,_,_,h⟩<;>omega
  rw[show ov (W - Y) M X=Mc by unfold ov;rw[qP ρa]];exact Ck X Y M W _ _ v e w hX hY hM hW rfl hx rfl NA QW h (bne_iff_ne.2 he)
def lowB (Xa Ya Ma Xb Yb Mb:Int):Bool:=decide (la Xb Yb Mb (max Xa Xb)<la Xa Ya Ma (max Xa Xb))
theorem Ev (Xa Ya Ma Xb Yb Mb p q c:Int)(w:ϖ)(Tp:an Xa)(TX:ai Ya)(UM:an Ma)(Tq:an Xb)(TY:ai Yb)(NO:an Mb)(hp:la Xa Ya Ma Xa=p)(hq:la Xb Yb Mb Xa=q)(p1:ai p)(q1:ai q)(hg:Xb<=Xa)(hc:lq q p=c)(KU:decide (c<0)=false):
  CB 248 #[lv Xa Ya Ma,lv Xb Yb Mb] w (lv Xa Ya Ma):=by
 have Hp:=ag hp;have Hq:=ag hq;clear hp hq;have Hc:=ag hc;clear hc;have d1:=df (Xa<Xb);unfold CB;go_in;go_wp2_with fail;refine η4 ?_;intro v1 Qp Pu Uz UH Ux Yh Yi
 repeat (go_big_quiet_step ((first
   | (go_at_call 267;(with_reducible exact cD (lat Xb Yb Mb Xa q _ Tq TY NO ρa Hq.out)))
   | (go_at_call 267;(with_reducible exact cD (lat Xa Ya Ma Xa p _ Tp TX UM ρa Hp.out)))
   | (go_at_call 235;(with_reducible exact cD (oP q p c _ q1 p1 Hc.out))))))
 refine wpQuiet_nil ?_;intro _ Pk;obtain⟨pq,MY⟩:=Pk;subst MY;have Kr:=qW v1 pq.d pq.os;generalize Sort.grow (redrawn v1 pq.d) pq.os=w1 at*;refine η1 ?_;clear Kr Qp Pu Ux Uz Yh UH Yi;intro A1 B1 R1 g1 KN Rr;go_wp2;exact Eb (w+1+1) #[Xa,(hi (Ya)),(lo (Ya)),Ma] 234 rfl σ5
theorem Ew (Xa Ya Ma Xb Yb Mb p q c:Int)(w:ϖ)(Tp:an Xa)(TX:ai Ya)(UM:an Ma)(Tq:an Xb)(TY:ai Yb)(NO:an Mb)(hp:la Xa Ya Ma Xa=p)(hq:la Xb Yb Mb Xa=q)(p1:ai p)(q1:ai q)(hg:Xb<=Xa)(hc:lq q p=c)(KU:decide (c<0)=true):
  CB 248 #[lv Xa Ya Ma,lv Xb Yb Mb] w (lv Xb Yb Mb):=by
 have Hp:=ag hp;have Hq:=ag hq;clear hp hq;have Hc:=ag hc;clear hc;have d1:=df (Xa<Xb);unfold CB;go_in;go_wp2_with fail;refine η4 ?_;intro v1 Qp Pu Uz UH Ux Yh Yi
 repeat (go_big_quiet_step ((first
   | (go_at_call 267;(with_reducible exact cD (lat Xb Yb Mb Xa q _ Tq TY NO ρa Hq.out)))
   | (go_at_call 267;(with_reducible exact cD (lat Xa Ya Ma Xa p _ Tp TX UM ρa Hp.out)))
   | (go_at_call 235;(with_reducible exact cD (oP q p c _ q1 p1 Hc.out))))))
 refine wpQuiet_nil ?_;intro _ Pk;obtain⟨pq,MY⟩:=Pk;subst MY;have Kr:=qW v1 pq.d pq.os;generalize Sort.grow (redrawn v1 pq.d) pq.os=w1 at*;refine η1 ?_;clear Kr Qp Pu Ux Uz Yh UH Yi;intro A1 B1 R1 g1 KN Rr;go_wp2;exact Eb (w+1+1) #[Xb,(hi (Yb)),(lo (Yb)),Mb] 234 rfl σ5
theorem Ex (Xa Ya Ma Xb Yb Mb p q c:Int)(w:ϖ)(Tp:an Xa)(TX:ai Ya)(UM:an Ma)(Tq:an Xb)(TY:ai Yb)(NO:an Mb)(hp:la Xa Ya Ma Xb=p)(hq:la Xb Yb Mb Xb=q)(p1:ai p)(q1:ai q)(hg:Xa<Xb)(hc:lq q p=c)(KU:decide (c<0)=false):
  CB 248 #[lv Xa Ya Ma,lv Xb Yb Mb] w (lv Xa Ya Ma):=by
 have Hp:=ag hp;have Hq:=ag hq;clear hp hq;have Hc:=ag hc;clear hc;have d1:=dt (Xa<Xb);unfold CB;go_in;go_wp2_with fail;refine η4 ?_;intro v1 Qp Pu Uz UH Ux Yh Yi
 repeat (go_big_quiet_step ((first
   | (go_at_call 267;(with_reducible exact cD (lat Xb Yb Mb Xb q _ Tq TY NO ρa Hq.out)))
   | (go_at_call 267;(with_reducible exact cD (lat Xa Ya Ma Xb p _ Tp TX UM ρa Hp.out)))
   | (go_at_call 235;(with_reducible exact cD (oP q p c _ q1 p1 Hc.out))))))
 refine wpQuiet_nil ?_;intro _ Pk;obtain⟨pq,MY⟩:=Pk;subst MY;have Kr:=qW v1 pq.d pq.os;generalize Sort.grow (redrawn v1 pq.d) pq.os=w1 at*;refine η1 ?_;clear Kr Qp Pu Ux Uz Yh UH Yi;intro A1 B1 R1 g1 KN Rr;go_wp2;exact Eb (w+1+1) #[Xa,(hi (Ya)),(lo (Ya)),Ma] 234 rfl σ5
theorem Ey (Xa Ya Ma Xb Yb Mb p q c:Int)(w:ϖ)(Tp:an Xa)(TX:ai Ya)(UM:an Ma)(Tq:an Xb)(TY:ai Yb)(NO:an Mb)(hp:la Xa Ya Ma Xb=p)(hq:la Xb Yb Mb Xb=q)(p1:ai p)(q1:ai q)(hg:Xa<Xb)(hc:lq q p=c)(KU:decide (c<0)=true):
  CB 248 #[lv Xa Ya Ma,lv Xb Yb Mb] w (lv Xb Yb Mb):=by
 have Hp:=ag hp;have Hq:=ag hq;clear hp hq;have Hc:=ag hc;clear hc;have d1:=dt (Xa<Xb);unfold CB;go_in;go_wp2_with fail;refine η4 ?_;intro v1 Qp Pu Uz UH Ux Yh Yi
 repeat (go_big_quiet_step ((first
   | (go_at_call 267;(with_reducible exact cD (lat Xb Yb Mb Xb q _ Tq TY NO ρa Hq.out)))
   | (go_at_call 267;(with_reducible exact cD (lat Xa Ya Ma Xb p _ Tp TX UM ρa Hp.out)))
   | (go_at_call 235;(with_reducible exact cD (oP q p c _ q1 p1 Hc.out))))))
 refine wpQuiet_nil ?_;intro _ Pk;obtain⟨pq,MY⟩:=Pk;subst MY;have Kr:=qW v1 pq.d pq.os;generalize Sort.grow (redrawn v1 pq.d) pq.os=w1 at*;refine η1 ?_;clear Kr Qp Pu Ux Uz Yh UH Yi;intro A1 B1 R1 g1 KN Rr;go_wp2;exact Eb (w+1+1) #[Xb,(hi (Yb)),(lo (Yb)),Mb] 234 rfl σ5
theorem BI (Xa Ya Ma Xb Yb Mb X Y M:Int)(w:ϖ)(Tp:an Xa)(TX:ai Ya)(UM:an Ma)(Tq:an Xb)(TY:ai Yb)(NO:an Mb)(hr:(lowB Xa Ya Ma Xb Yb Mb=true/\X=Xb/\Y=Yb/\M=Mb)\/(lowB Xa Ya Ma Xb Yb Mb=false/\X=Xa/\Y=Ya/\M=Ma)):
  CB 248 #[lv Xa Ya Ma,lv Xb Yb Mb] w (lv X Y M):=by
 have i1:=Di (X:=Xa) (M:=Ma) (x:=max Xa Xb) TX;have i2:=Di (X:=Xb) (M:=Mb) (x:=max Xa Xb) TY;unfold lowB at hr;by_cases hg:Xa<Xb
 ·rw[show max Xa Xb=Xb by omega] at*;rcases hr with ⟨h,rfl,rfl,rfl⟩|⟨h,rfl,rfl,rfl⟩
  ·exact Ey _ _ _ _ _ _ _ _ _ w Tp TX UM Tq TY NO rfl rfl i1 i2 ρa rfl (by have:=of_decide_eq_true h;unfold lq;rw[qP this];rfl)
  ·exact Ex _ _ _ _ _ _ _ _ _ w Tp TX UM Tq TY NO rfl rfl i1 i2 ρa rfl (by have:=of_decide_eq_false h;unfold lq;rw[qI this];split<;>rfl)
 ·rw[show max Xa Xb=Xa by omega] at*;rcases hr with ⟨h,rfl,rfl,rfl⟩|⟨h,rfl,rfl,rfl⟩
  ·exact Ew _ _ _ _ _ _ _ _ _ w Tp TX UM Tq TY NO rfl rfl i1 i2 ρa rfl (by have:=of_decide_eq_true h;unfold lq;rw[qP this];rfl)
  ·exact Ev _ _ _ _ _ _ _ _ _ w Tp TX UM Tq TY NO rfl rfl i1 i2 ρa rfl (by have:=of_decide_eq_false h;unfold lq;rw[qI this];split<;>rfl)
theorem zN (m d n W c k o r:Int)(w:ϖ)(hm:an m)(hd:an d)(hn:an n)(hW:ai W)(hk:kd m d n=c)(hc:(c==0)=true):
  CB 57 #[φ (aH m d n),nv W] w (ι υ Mc):=by
 have Hhk:=ag hk;clear hk;unfold CB;go_in;go_wp2_with fail;refine δD ?_;intro w1 C1 W1 g1 KN Rr;go_wp2;go_ret;exact⟨rfl,ρE⟩
theorem zV (m d n W c k o r:Int)(w:ϖ)(hm:an m)(hd:an d)(hn:an n)(hW:ai W)(hk:kd m d n=c)(hc:(c==0)=false)(h0:W=0):
  CB 57 #[φ (aH m d n),nv W] w Ky:=by
 have heq:=ED W true hW (by simp[h0]);clear h0;have Hhk:=ag hk;clear hk;unfold CB;go_in;go_wp2_with fail;refine δD ?_;intro w1 C1 W1 g1 KN Rr;go_wp2;go_ret;exact⟨rfl,ρE⟩
theorem zW (m d n W c k o r:Int)(w:ϖ)(hm:an m)(hd:an d)(hn:an n)(hW:ai W)(hk:kd m d n=c)(hc:(c==0)=false)(h0:W≠0)(hs:sk m d n d=k)(WH:ai k)(hl:decide (k<W)=false)(ho:ov W m 0=o):
  CB 57 #[φ (aH m d n),nv W] w o:=by
 have heq:=ED W false hW (by simp[h0]);clear h0;have Hhk:=ag hk;have Hhs:=ag hs;have Hhl:=ag hl;have Hho:=ag ho;clear hk hs hl ho;unfold CB;go_in;go_wp2_with fail;refine δD ?_;intro w1 C1 W1 g1 KN Rr;go_wp2_with fail;refine(gV m d n d k _ hm.1 hd.1 hn.1 hd Hhs.out).mono ?_;rintro e w2 ⟨rfl,Kx⟩;have C2:=C1.tr Kx;have W2:=W1.tr Kx;refine η9 ?_;intro g2 Li;clear Kx;replace Rr:=θ2 C2.r W2.r;go_wp2_with fail;refine(pE k W false _ WH hW Hhl.out).mono ?_;rintro e w3 ⟨rfl,Lw⟩;have C3:=C2.tr Lw;have W3:=W2.tr Lw;have K3:ah w3 w2 (bw k) 70:=Zv Lw;refine δZ ?_;intro g3 NW;clear Lw;replace Rr:=θ3 C3.r W3.r K3.r;go_wp2_with fail;refine(Do W m 0 o _ hW hm ρa Hho.out).mono ?_;rintro e w4 ⟨rfl,MV⟩;have g4:=Tg w MV;have Sc:=MV.size;(try simp at Sc);clear MV;go_wp2;go_ret;exact⟨rfl,ρE⟩
theorem Aa (m d n W c k o r:Int)(w:ϖ)(hm:an m)(hd:an d)(hn:an n)(hW:ai W)(hk:kd m d n=c)(hc:(c==0)=false)(h0:W≠0)(hs:sk m d n d=k)(WH:ai k)(hl:decide (k<W)=true)(hr:bh (W - k)=r)(NA:ai r)(Np:d<=1048576)(ho:ov r n d=o):
  CB 57 #[φ (aH m d n),nv W] w o:=by
 have heq:=ED W false hW (by simp[h0]);clear h0;have Hhk:=ag hk;have Hhs:=ag hs;have Hhl:=ag hl;have Hho:=ag ho;have Hhr:=ag hr;clear hk hs hl ho hr;unfold CB;go_in;go_wp2_with fail;refine δD ?_;intro w1 C1 W1 g1 KN Rr;go_wp2_with fail;refine(gV m d n d k _ hm.1 hd.1 hn.1 hd Hhs.out).mono ?_;rintro e w2 ⟨rfl,Kx⟩;have C2:=C1.tr Kx;have W2:=W1.tr Kx;refine η9 ?_;intro g2 Li;clear Kx;replace Rr:=θ2 C2.r W2.r;go_wp2_with fail;refine(pE k W true _ WH hW Hhl.out).mono ?_;rintro e w3 ⟨rfl,Lw⟩;have C3:=C2.tr Lw;have W3:=W2.tr Lw;have K3:ah w3 w2 (bw k) 70:=Zv Lw;refine δZ ?_;intro g3 NW;clear Lw;replace Rr:=θ3 C3.r W3.r K3.r;go_wp2_with fail;go_region_held3 (λv=>Bk v w (aH m d n) 41/\Bk v (w+1) (bw W) 70/\Bk v w2 (bw k) 70/\Below w w v) (exact ρH)
  (first
   | (go_at_call 39;(with_reducible refine(vE W k r _ hW WH Hhr.out).mono ?_);refine bf ?_;intro w' f' KK KJ)
   | (go_at_call 91;(with_reducible refine(Do r n d o _ NA hn ρa Hho.out).mono ?_);refine bf ?_;intro w' f' KK KJ))
 all_goals
  (try go_split_ands);go_wp2;go_ret;exact⟨rfl,ρE⟩
theorem Ff {W k:Int} (hW:ai W)(hk:ai k)(h:k<W):ai (W - k):=by unfold ai at*;omega
theorem Ct {m d n:Int} (h:kd m d n≠0):sk m d n d=m*d:=by unfold sk;rw[qI h];exact Cw m d n
theorem ul (m d n W T:Int)(w:ϖ)(hm:an m)(hd:an d)(hn:an n)(hW:ai W)(hT:tk m d n W=T):
  CB 57 #[φ (aH m d n),nv W] w T:=by
 subst hT;by_cases hk:kd m d n=0
 ·rw[show tk m d n W=Mc by unfold tk;rw[qP hk]];exact zN m d n W _ 0 0 0 w hm hd hn hW rfl (by simp[hk])
 ·have VQ:(kd m d n==0)=false:=by simp[hk]
  have Nj:=Aj hm.1 hd.1 hn.1 hd.1 hd.2;have hs:=Ct hk;by_cases h0:W=0
  ·rw[show tk m d n W=0 by unfold tk;rw[qI hk,qP h0]];exact zV m d n W _ 0 0 0 w hm hd hn hW rfl VQ h0
  ·by_cases h1:W<=m*d
   ·rw[show tk m d n W=ov W m 0 by unfold tk;rw[qI hk,qI h0,qP h1]];exact zW m d n W _ _ _ 0 w hm hd hn hW rfl VQ h0 rfl Nj ρF rfl
   ·rw[show tk m d n W=ov (W - m*d) n d by unfold tk;rw[qI hk,qI h0,qI h1]];have NA:ai (W - sk m d n d):=Ff hW Nj ρa;rw[<- hs];exact Aa m d n W _ _ _ _ w hm hd hn hW rfl VQ h0 rfl Nj ρF (fI NA) NA (gk hk).2.2 rfl
end Go.Proofs.YtfdlemkplejdnaaGreat
