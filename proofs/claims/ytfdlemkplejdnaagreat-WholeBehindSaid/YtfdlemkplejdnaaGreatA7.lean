/- WholeBehind, part 7. Conditions: none. -/
import Derived.Test.YtfdlemkplejdnaaGreatA3
import Derived.Test.YtfdlemkplejdnaaGreatA4
import Derived.Test.YtfdlemkplejdnaaGreatA5
namespace Go.Proofs.YtfdlemkplejdnaaGreat
open Go.RowKit Go.Sort
open Value renaming int->ι,pointer->ψ,slice->ζ,tuple->χ,agg->φ,map->μ,bool->β
open IntKind renaming u64->υ,i64->ε,u16->ω
open Ending renaming returned->ϰ
open Go.Proofs.Tryz renaming prog->Ψ,underlying3->Θ,underlying147->Δ,underlying152->Γ,underlying202->Φ,underlying39->Ξ,underlying207->Ω
open Go renaming World->ϖ,Value->ϗ
set_option linter.unusedVariables false
set_option linter.unusedSimpArgs false
set_option maxHeartbeats 8000000
set_option maxRecDepth 100000
def GX (n d v e:Int):Prop:=(d=0/\v=0/\e=1)\/(1<=d/\hi (n / d)≠0/\v=0/\e=20)\/(1<=d/\hi (n / d)=0/\v=lo (n / d)/\e=0)
def up (n d:Int):Int:=if n % d=0 then n / d else n / d+1
def tE (n d v e:Int):Prop:=(d=0/\v=0/\e=1)\/(1<=d/\hi (up n d)≠0/\v=0/\e=20)\/(1<=d/\hi (up n d)=0/\v=lo (up n d)/\e=0)
theorem GX.ex (n d:Int)(hd:0<=d):∃v e,GX n d v e:=by
 by_cases h:d=0
 ·exact⟨0,1,.inl ⟨h,rfl,rfl⟩⟩
 ·by_cases h2:hi (n / d)=0
  ·exact⟨lo (n / d),0,.inr (.inr ⟨by omega,h2,rfl,rfl⟩)⟩
  ·exact⟨0,20,.inr (.inl ⟨by omega,h2,rfl,rfl⟩)⟩
theorem tE.ex (n d:Int)(hd:0<=d):∃v e,tE n d v e:=by
 by_cases h:d=0
 ·exact⟨0,1,.inl ⟨h,rfl,rfl⟩⟩
 ·by_cases h2:hi (up n d)=0
  ·exact⟨lo (up n d),0,.inr (.inr ⟨by omega,h2,rfl,rfl⟩)⟩
  ·exact⟨0,20,.inr (.inl ⟨by omega,h2,rfl,rfl⟩)⟩
theorem lq {n d:Int} (hn:ai n)(hd:1<=d):ai (n / d)/\0<=n % d/\n % d<d:=by have h1:=Int.ediv_le_self d hn.1;have h2:=Int.ediv_nonneg hn.1 (show 0<=d by omega);exact⟨⟨h2,by have:=hn.2;omega⟩,Int.emod_nonneg n ρa,Int.emod_lt_of_pos n ρa⟩
theorem yu {n d:Int} (hn:ai n)(hd:1<=d):ai (n / d+1)\/n % d=0:=by
 by_cases h:n % d=0
 ·exact .inr h
 ·left;have Li:2<=d:=by
   rcases Int.lt_or_le d 2 with h2|h2
   ·have:d=1:=by omega
    subst this;omega
   ·exact h2
  have h0:=Int.ediv_nonneg hn.1 (show 0<=d by omega);have h1:n / d*2<=n:=Int.le_trans (ZU Li h0) (Int.ediv_mul_le n ρa);unfold ai at*;omega
theorem BR (a b q r:Int)(w:ϖ)(ha:ai a)(hb:1<=b)(f':b<=Ma)(hq:a / b=q)(hr:a % b=r):
  CB 288 #[wv a,b] w (χ #[wv q,r,Kz]):=by subst hq hr;exact GM a b w ha hb f'
theorem uf (a b q r:Int)(w:ϖ)(ha:ai a)(hb:1<=b)(f':b<=Ma)(hq:a / b=q)(hr:a % b=r):
  CB 58 #[nv a,b] w (χ #[nv q,r]):=by subst hq hr;exact vn a b w ha hb f'
theorem BN {x y:ϗ} {a b c:Int} (hx:x=wv a)(hy:y=wv b)(hc:a+b=c)(w:ϖ)(ha:ai a)(hb:ai b)(Jj:ai c):
  CB 249 #[x,y] w (χ #[wv c,dI]):=by
 subst hx hy hc;have:=FC a b w ha hb;rw[iJ Jj,ZF (by unfold ai at Jj;omega)] at this;exact this
theorem FD (a c:Int)(w:ϖ)(ha:ai a)(hc:a+1=c)(Jj:ai c):
  CB 249 #[wv a,wv 1] w (χ #[wv c,dI]):=BN rfl rfl hc w ha ρx Jj
theorem vc (q:Int)(w:ϖ)(h:hi q=0):
  CB 289 #[wv q] w (χ #[(lo q),Kz]):=by
 have b1:(hi q !=0)=false:=by simp[h]
 clear h;unfold CB;go_in;go_wp2;go_returns;exact⟨rfl,ρE⟩
theorem uZ (q:Int)(w:ϖ)(h:hi q≠0):
  CB 289 #[wv q] w (χ #[Ky,ι ε 20]):=by
 have b1:(hi q !=0)=true:=bne_iff_ne.2 h;clear h;unfold CB;go_in;go_wp2;go_returns;exact⟨rfl,ρE⟩
theorem pV (q v e:Int)(w:ϖ)(h:(hi q≠0/\v=0/\e=20)\/(hi q=0/\v=lo q/\e=0)):Calls Ψ 289 #[wv q] w λx w'=>x=ϰ (χ #[v,ι ε e])/\Below w w w':=by
 rcases h with ⟨h,rfl,rfl⟩|⟨h,rfl,rfl⟩
 ·exact uZ q w h
 ·exact vc q w h
theorem FF (A:Int)(w:ϖ):
  CB 288 #[wv A,Ky] w (χ #[φ #[Ky,Ky],Ky,Ko]):=by
 have:=FE A w;rw[show wv 0=φ #[Ky,Ky] from(ut ρa ρa ρa).symm] at this;exact this
theorem Cm (n d v e:Int)(w:ϖ)(hn:ai n)(hd:aq d)(h:tE n d v e):Calls Ψ 276 #[wv n,d] w λx w'=>x=ϰ (χ #[v,ι ε e])/\Below w w w':=by
 by_cases h0:d=0
 ·obtain⟨rfl,rfl⟩:v=0/\e=1:=by rcases h with h|h|h<;>omega
  subst h0;clear h;go_in;go_wp2_with fail;refine(FF n _).mono ?_;refine δN ?_;intro w1 g1 Jf;go_wp2;go_returns;exact⟨rfl,ρE⟩
 ·have No:1<=d:=by omega
  have hN:(hi (up n d)≠0/\v=0/\e=20)\/(hi (up n d)=0/\v=lo (up n d)/\e=0):=by
   rcases h with h|h|h
   ·omega
   ·exact .inl h.2
   ·exact .inr h.2
  have NZ:=(lq hn No).1;have hu:=yu hn No;by_cases hz:n % d=0
  ·rw[show up n d=n / d by unfold up;rw[ZP hz]] at hN;obtain⟨q,hq⟩:=Nq (n / d);rw[hq] at hN;have Hq:=ag hq;have Hr:=ag hz;have HN:=ag hN;clear h h0 hq hz hN hu;go_in;go_wp2_with fail;refine(BR n d q 0 _ hn No hd.2 Hq.out Hr.out).mono ?_;refine δN ?_;intro w1 g1 Jf;go_wp2_with fail;refine(pV q v e _ HN.out).mono ?_;rintro e w2 ⟨rfl,IW⟩;refine η9 ?_;intro g2 Jr;clear IW;go_wp2;go_returns;exact⟨rfl,ρE⟩
  ·rw[show up n d=n / d+1 by unfold up;rw[ZI hz]] at hN;have Yi:ai (n / d+1):=by rcases hu with hu|hu;exact hu;exact ax hu hz
   obtain⟨q,hq⟩:=Nq (n / d);obtain⟨r,hr⟩:=Nq (n % d);rw[hq] at hN Yi NZ;have rb:(r !=0)=true:=by rw[<- hr];exact bne_iff_ne.2 hz
   obtain⟨q1,J2⟩:=Nq (q+1);rw[J2] at hN Yi;have Hq:=ag hq;have Hr:=ag hr;have HN:=ag hN;have Hq1:=ag J2;clear h h0 hq hr hz hN hu J2;go_in;go_wp2_with fail;refine(BR n d q r _ hn No hd.2 Hq.out Hr.out).mono ?_;refine δN ?_;intro w1 g1 Jf;go_wp2_with fail;go_region_with (first
     | (go_at_call 241;(with_reducible refine(Hz 1 _ ρa ρa).mono ?_);refine bo ?_;intro w' f' IZ IY;have J8:ah w' w1 (mi q) 232:=Zv f';have rQ:=J8.r;clear f')
     | (go_at_call 249;(with_reducible refine(FD q q1 _ NZ Hq1.out Yi).mono ?_);refine bo ?_;intro w' f' IZ IY;have J8:ah w' w1 (mi q) 232:=Zv f';have rQ:=J8.r;clear f'))
   all_goals
    go_wp2_with fail;refine(pV q1 v e _ HN.out).mono ?_;rintro e w4 ⟨rfl,Ls⟩;have g4:=Tg w Ls;have RR:=Ls.size;(try simp at RR);clear Ls;go_wp2;go_returns;exact⟨rfl,ρE⟩
theorem iq (a b c:Int)(w:ϖ)(ha:ai a)(hb:ai b)(hs:a+b=c)(hc:ai c):
  CB 59 #[nv a,nv b] w (nv c):=fl rfl rfl w ha hb hs hc
theorem AF (n:Int)(w:ϖ):
  CB 36 #[nv n,Ky] w (φ #[Ky,Ko]):=by
 unfold CB;go_in;go_wp2;go_returns;exact⟨rfl,ρE⟩
theorem xx (n d:Int)(q:Int)(w:ϖ)(hn:ai n)(No:1<=d)(Li:d<=Ma)(hq:n / d=q)(hr:n % d=0)(hh:hi q≠0):
  CB 36 #[nv n,d] w (φ #[ι υ (0),ι ε 20]):=by
 have d0:(d==0)=false:=ZN.2 ρa;have b0:(hi q !=0)=true:=bne_iff_ne.2 hh;have Hq:=ag hq;have Hr:=ag hr;clear hq hr hh;unfold CB;go_in;go_wp2_with fail;refine(uf n d q 0 _ hn No Li Hq.out Hr.out).mono ?_;refine δB ?_;intro w1 IG A1 R1;refine η2 ?_;intro g1 Jf;clear IG;have Rr:=θ2 A1.r R1.r;go_wp2_with fail;refine(CZ q _).mono ?_;rintro e w2 ⟨rfl,IW⟩;have A2:=A1.tr IW;have R2:=R1.tr IW;have Q2:ah w2 w1 (bv q) 70:=Zv IW;refine η9 ?_;intro g2 Jr;clear IW;replace Rr:=θ3 A2.r R2.r Q2.r;go_wp2;exact Eb (w+1) #[ι υ (0),ι ε (20)] 104 rfl τd
theorem xy (n d:Int)(q:Int)(w:ϖ)(hn:ai n)(No:1<=d)(Li:d<=Ma)(hq:n / d=q)(hr:n % d=0)(hh:hi q=0):
  CB 36 #[nv n,d] w (φ #[(lo q),Kz]):=by
 have d0:(d==0)=false:=ZN.2 ρa;have b0:(hi q !=0)=false:=by simp[hh]
 have Hq:=ag hq;have Hr:=ag hr;clear hq hr hh;unfold CB;go_in;go_wp2_with fail;refine(uf n d q 0 _ hn No Li Hq.out Hr.out).mono ?_;refine δB ?_;intro w1 IG A1 R1;refine η2 ?_;intro g1 Jf;clear IG;have Rr:=θ2 A1.r R1.r;go_wp2_with fail;refine(CZ q _).mono ?_;rintro e w2 ⟨rfl,IW⟩;have A2:=A1.tr IW;have R2:=R1.tr IW;have Q2:ah w2 w1 (bv q) 70:=Zv IW;refine η9 ?_;intro g2 Jr;clear IW;replace Rr:=θ3 A2.r R2.r Q2.r;go_wp2_with fail;refine(Gu q _).mono ?_;rintro e w3 ⟨rfl,JJ⟩;have A3:=A2.tr JJ;have R3:=R2.tr JJ;have Q3:=Q2.tr JJ;have g3:=Tg w JJ;have LD:=JJ.size;(try simp at LD);clear JJ;replace Rr:=θ3 A3.r R3.r Q3.r;go_wp2;exact Eb (w+1) #[(lo q),ι ε (0)] 104 rfl τd
theorem xu (n d:Int)(q r q1:Int)(w:ϖ)(hn:ai n)(No:1<=d)(Li:d<=Ma)(hq:n / d=q)(hr:n % d=r)(rb:(r !=0)=true)(rp:0<r)(J2:q+1=q1)(NZ:ai q)(hu:ai q1)(hh:hi q1≠0):
  CB 36 #[nv n,d] w (φ #[ι υ (0),ι ε 20]):=by
 have d0:(d==0)=false:=ZN.2 ρa;have b0:(hi q1 !=0)=true:=bne_iff_ne.2 hh;have Hq:=ag hq;have Hr:=ag hr;clear hq hr hh;have Hq1:=ag J2;clear J2;have dr:decide (0<r)=true:=ZT rp;unfold CB;go_in;go_wp2_with fail;refine(uf n d q r _ hn No Li Hq.out Hr.out).mono ?_;refine δB ?_;intro w1 IG A1 R1;refine η2 ?_;intro g1 Jf;clear IG;have Rr:=θ2 A1.r R1.r;go_wp2_with fail;go_region_with (first
   | (go_at_call 60;(with_reducible refine(AD 1 _ ρa ρa).mono ?_);refine bo ?_;intro w' f' IZ IY;have IP:=A1.tr f';have rA:=IP.r;have Ji:=R1.tr f';have rR:=Ji.r;have J8:ah w' w1 (bv q) 70:=Zv f';have rQ:=J8.r;clear f')
   | (go_at_call 59;(with_reducible refine(iq q 1 q1 _ NZ ρx Hq1.out hu).mono ?_);refine bo ?_;intro w' f' IZ IY;have IP:=A1.tr f';have rA:=IP.r;have Ji:=R1.tr f';have rR:=Ji.r;have J8:ah w' w1 (bv q) 70:=Zv f';have rQ:=J8.r;clear f'))
 all_goals
  go_wp2_with fail;refine(CZ q1 _).mono ?_;rintro e w4 ⟨rfl,Ls⟩;have A4:=A1.tr Ls;have R4:=R1.tr Ls;have Q4:ah w4 w1 (bv q1) 70:=Zv Ls;have g4:=Tg w Ls;have RR:=Ls.size;(try simp at RR);clear Ls;replace Rr:=θ3 A4.r R4.r Q4.r;go_wp2;exact Eb (w+1) #[ι υ (0),ι ε (20)] 104 rfl τd
theorem xw (n d:Int)(q r q1:Int)(w:ϖ)(hn:ai n)(No:1<=d)(Li:d<=Ma)(hq:n / d=q)(hr:n % d=r)(rb:(r !=0)=true)(rp:0<r)(J2:q+1=q1)(NZ:ai q)(hu:ai q1)(hh:hi q1=0):
  CB 36 #[nv n,d] w (φ #[(lo q1),Kz]):=by
 have d0:(d==0)=false:=ZN.2 ρa;have b0:(hi q1 !=0)=false:=by simp[hh]
 have Hq:=ag hq;have Hr:=ag hr;clear hq hr hh;have Hq1:=ag J2;clear J2;have dr:decide (0<r)=true:=ZT rp;unfold CB;go_in;go_wp2_with fail;refine(uf n d q r _ hn No Li Hq.out Hr.out).mono ?_;refine δB ?_;intro w1 IG A1 R1;refine η2 ?_;intro g1 Jf;clear IG;have Rr:=θ2 A1.r R1.r;go_wp2_with fail;go_region_with (first
   | (go_at_call 60;(with_reducible refine(AD 1 _ ρa ρa).mono ?_);refine bo ?_;intro w' f' IZ IY;have IP:=A1.tr f';have rA:=IP.r;have Ji:=R1.tr f';have rR:=Ji.r;have J8:ah w' w1 (bv q) 70:=Zv f';have rQ:=J8.r;clear f')
   | (go_at_call 59;(with_reducible refine(iq q 1 q1 _ NZ ρx Hq1.out hu).mono ?_);refine bo ?_;intro w' f' IZ IY;have IP:=A1.tr f';have rA:=IP.r;have Ji:=R1.tr f';have rR:=Ji.r;have J8:ah w' w1 (bv q) 70:=Zv f';have rQ:=J8.r;clear f'))
 all_goals
  go_wp2_with fail;refine(CZ q1 _).mono ?_;rintro e w4 ⟨rfl,Ls⟩;have A4:=A1.tr Ls;have R4:=R1.tr Ls;have Q4:ah w4 w1 (bv q1) 70:=Zv Ls;have g4:=Tg w Ls;have RR:=Ls.size;(try simp at RR);clear Ls;replace Rr:=θ3 A4.r R4.r Q4.r;go_wp2_with fail;refine(Gu q1 _).mono ?_;rintro e w5 ⟨rfl,JF⟩;have A5:=A4.tr JF;have R5:=R4.tr JF;have Q5:=Q4.tr JF;have g5:=Tg w JF;have QZ:=JF.size;(try simp at QZ);clear JF;replace Rr:=θ3 A5.r R5.r Q5.r;go_wp2;exact Eb (w+1) #[(lo q1),ι ε (0)] 104 rfl τd
theorem AG (n d x y:Int)(w:ϖ)(hn:ai n)(hd:aq d)(h:tE n d x y):
  CB 36 #[nv n,d] w (φ #[x,ι ε y]):=by
 rcases h with ⟨rfl,rfl,rfl⟩|⟨No,hh,rfl,rfl⟩|⟨No,hh,rfl,rfl⟩
 ·exact AF n w
 ·have NZ:=(lq hn No).1;by_cases hz:n % d=0
  ·rw[show up n d=n / d by unfold up;rw[ZP hz]] at hh;exact xx n d (n / d) w hn No hd.2 rfl hz hh
  ·rw[show up n d=n / d+1 by unfold up;rw[ZI hz]] at hh;exact xu n d (n / d) (n % d) (n / d+1) w hn No hd.2 rfl rfl (bne_iff_ne.2 hz) (by have:=(lq hn No).2;omega) rfl NZ (by rcases yu hn No with hu|hu;exact hu;exact ax hu hz) hh
 ·have NZ:=(lq hn No).1;by_cases hz:n % d=0
  ·rw[show up n d=n / d by unfold up;rw[ZP hz]] at hh ⊢;exact xy n d (n / d) w hn No hd.2 rfl hz hh
  ·rw[show up n d=n / d+1 by unfold up;rw[ZI hz]] at hh ⊢;exact xw n d (n / d) (n % d) (n / d+1) w hn No hd.2 rfl rfl (bne_iff_ne.2 hz) (by have:=(lq hn No).2;omega) rfl NZ (by rcases yu hn No with hu|hu;exact hu;exact ax hu hz) hh
theorem gk (a b p:Int)(w:ϖ)(ha:aq a)(hb:aq b)(hp:a*b=p):
  CB 211 #[a,b] w (wv p):=by subst hp;exact GN a b w ha.1 ha.2 hb.1 hb.2
theorem il {a b p:Int} (ha:aq a)(hb:aq b)(hp:a*b=p):ai p:=by have:=jN a b ha.1 ha.2 hb.1 hb.2;rw[hp] at this;unfold ai;omega
theorem nF (a b k:Int)(w:ϖ)(ha:ai a)(hb:ai b)(h:kG a b=k):
  CB 235 #[wv a,wv b] w (ι ε k):=by subst h;exact yA a b w ha hb
theorem ji (m d n:Int)(w:ϖ)(h:0<=m/\0<=d/\0<=n)(b:Bool)(hb:(kd m d n !=0)=b):
  CB 182 #[φ (aP m d n)] w (β b):=by
 subst hb;unfold CB;go_in;go_wp2_with fail;refine(bU m d n _ _ h.1 h.2.1 h.2.2 rfl).mono ?_;refine δN ?_;intro w1 g1 Jf;go_wp2;go_ret;exact⟨rfl,ρE⟩
theorem yz (a b c:Int)(w:ϖ)(ha:ai a)(hb:ai b)(hc:a+b=c)(Jj:ai c):
  CB 249 #[wv a,wv b] w (χ #[wv c,dI]):=BN rfl rfl hc w ha hb Jj
theorem rh (a x b p:Int)(w:ϖ)(ha:aq a)(hb:aq b)(hx:x=b)(hp:a*b=p):
  CB 211 #[a,x] w (wv p):=by subst hx;exact gk a x p w ha hb hp
theorem sS (m d n t p q s:Int)(w:ϖ)(hm:je m)(hd:kR d)(hn:je n)(ht:aq t)(hk:(kd m d n !=0)=true)(hh:d<t)(hp:m*d=p)(hq:n*(t - d)=q)(hs:p+q=s)(s1:ai s):
  CB 239 #[φ (aP m d n),t] w (wv s):=by
 have p1:ai p:=il ρa ρa hp;have q1:ai q:=il ρa ρa hq;have Hw:=ag (show IntKind.u64.wrap (t - d)=(t - d) from ZZ _ ⟨by omega,by omega⟩);have Hp:=ag hp;have Hq:=ag hq;have Hs:=ag hs;clear hp hq hs;unfold CB;go_in;go_wp2_with fail;refine(ji m d n _ ⟨hm.1,hd.1,hn.1⟩ true hk).mono ?_;refine δ2 ?_;intro w1 C1 R1 g1 Jf Rr;go_upto_region 4 with (fail);go_cut [6,7] (λp6 p7 wx=>∃X:Nat,p6=X/\p7=dI/\Below w w wx/\ah wx (w+1) #[Ky,Ky] 232/\ah wx X (mi s) 232);case first=>
  go_region_held3 (λv=>Bk v w (aP m d n) 41/\Below w w v) (exact ρH)
   (first
    | (go_at_call 211;(with_reducible refine(gk m d p _ ρa ρa Hp.out).mono ?_);refine bo ?_;intro w' f' IZ IY;(try have hX:=Xb f');(try simp only[World.size_alloc] at hX);(try have rX:=hX.r);have Ji:=R1.tr f';have rR:=Ji.r)
    | (go_at_call 211;(with_reducible refine(rh n _ (t - d) q _ ρa ρa τN Hq.out).mono ?_);refine bo ?_;intro w' f' IZ IY;(try have hX:=Xb f');(try simp only[World.size_alloc] at hX);(try have rX:=hX.r);have Ji:=R1.tr f';have rR:=Ji.r)
    | (go_at_call 249;(with_reducible refine(yz p q s _ p1 q1 Hs.out s1).mono ?_);refine bo ?_;intro w' f' IZ IY;(try have hX:=Xb f');(try simp only[World.size_alloc] at hX);(try have rX:=hX.r);have Ji:=R1.tr f';have rR:=Ji.r))
  all_goals
   (try go_split_ands);go_wp2;go_meet;exact⟨_,rfl,rfl,ρE,ρB,ρB⟩
 case rest=>
  exact ηu
theorem sT (m d n t p q s:Int)(w:ϖ)(hm:je m)(hd:kR d)(hn:je n)(ht:aq t)(hk:(kd m d n !=0)=true)(hh:t<=d)(hp:m*t=p)(hq:n*0=q)(hs:p+q=s)(s1:ai s):
  CB 239 #[φ (aP m d n),t] w (wv s):=by
 have p1:ai p:=il ρa ρa hp;have q1:ai q:=il ρa ρa hq;have Hw:=ag (show IntKind.u64.wrap 0=0 from ZZ _ ⟨by omega,by omega⟩);have Hp:=ag hp;have Hq:=ag hq;have Hs:=ag hs;clear hp hq hs;unfold CB;go_in;go_wp2_with fail;refine(ji m d n _ ⟨hm.1,hd.1,hn.1⟩ true hk).mono ?_;refine δ2 ?_;intro w1 C1 R1 g1 Jf Rr;go_upto_region 4 with (fail);go_cut [6,7] (λp6 p7 wx=>∃X:Nat,p6=X/\p7=dI/\Below w w wx/\ah wx (w+1) #[Ky,Ky] 232/\ah wx X (mi s) 232);case first=>
  go_region_held3 (λv=>Bk v w (aP m d n) 41/\Below w w v) (exact ρH)
   (first
    | (go_at_call 211;(with_reducible refine(gk m t p _ ρa ρa Hp.out).mono ?_);refine bo ?_;intro w' f' IZ IY;(try have hX:=Xb f');(try simp only[World.size_alloc] at hX);(try have rX:=hX.r);have Ji:=R1.tr f';have rR:=Ji.r)
    | (go_at_call 211;(with_reducible refine(rh n _ 0 q _ ρa ρa τN Hq.out).mono ?_);refine bo ?_;intro w' f' IZ IY;(try have hX:=Xb f');(try simp only[World.size_alloc] at hX);(try have rX:=hX.r);have Ji:=R1.tr f';have rR:=Ji.r)
    | (go_at_call 249;(with_reducible refine(yz p q s _ p1 q1 Hs.out s1).mono ?_);refine bo ?_;intro w' f' IZ IY;(try have hX:=Xb f');(try simp only[World.size_alloc] at hX);(try have rX:=hX.r);have Ji:=R1.tr f';have rR:=Ji.r))
  all_goals
   (try go_split_ands);go_wp2;go_meet;exact⟨_,rfl,rfl,ρE,ρB,ρB⟩
 case rest=>
  exact ηu
theorem FH (a b c:Int)(w:ϖ)(ha:ai a)(hb:ai b)(hc:a - b=c)(Jj:ai c):
  CB 275 #[wv a,wv b] w (χ #[wv c,dI]):=by
 have:=GO a b w ha hb;rw[hc,iJ Jj,ZF (by unfold ai at Jj;omega)] at this;exact this
theorem gO {m d n:Int} (h:kd m d n≠0):m<=Md/\n<=Md/\d<=1048576:=by unfold kd at h;(repeat' split at h)<;>omega
def sv (m d n t:Int):Int:=if t<=d then m*t else m*d+n*(t - d)
def sk (m d n t:Int):Int:=if kd m d n=0 then 0 else sv m d n t
theorem xY {m d n t:Int} (hm:je m)(hd:0<=d)(hn:je n)(ht:0<=t):0<=sv m d n t/\sv m d n t<=Md*t:=by
 unfold sv;split
 ·exact⟨Int.mul_nonneg hm.1 ht,Int.mul_le_mul_of_nonneg_right hm.2 ht⟩
 ·have h1:=Int.mul_nonneg hm.1 hd;have h2:=Int.mul_nonneg hn.1 (show 0<=t - d by omega);have h3:=Int.mul_le_mul_of_nonneg_right hm.2 hd;have h4:=Int.mul_le_mul_of_nonneg_right hn.2 (show 0<=t - d by omega);omega
theorem xU {m d n t:Int} (hm:0<=m)(hd:0<=d)(hn:0<=n)(ht:0<=t):0<=sk m d n t/\sk m d n t<=Md*t:=by
 unfold sk;split
 ·omega
 ·rename_i h;have:=gO h;exact xY ⟨hm,this.1⟩ hd ⟨hn,this.2.1⟩ ht
theorem BH {m d n t:Int} (hm:0<=m)(hd:0<=d)(hn:0<=n)(ht:0<=t)(ht':t<=Ma):ai (sk m d n t):=by have:=xU hm hd hn ht;unfold ai;omega
theorem iN {s m:Int} (hs:0<=s)(hm:1<=m):s<=m*up s m/\(0<s->1<=up s m/\m*(up s m - 1)<s)/\0<=up s m:=by
 have h1:=Int.mul_ediv_add_emod s m;have h2:=Int.emod_nonneg s (show m≠0 by omega);have h3:=Int.emod_lt_of_pos s (show 0<m by omega);have h4:=Int.ediv_nonneg hs (show 0<=m by omega);unfold up;split
 ·refine⟨by omega,λh=>?_,h4⟩;have:s / m≠0:=by intro h0;rw[h0] at h1;omega
  refine⟨by omega,?_⟩;rw[Int.mul_sub];omega
 ·refine⟨by rw[Int.mul_add];omega,λh=>⟨by omega,?_⟩,by omega⟩;rw[show s / m+1 - 1=s / m by omega];omega
theorem FA {s m k:Int} (hs:0<=s)(hm:1<=m)(hk:0<=k)(h:s<=m*k):up s m<=k:=by
 rcases Int.lt_or_le 0 s with h0|h0
 ·have:=(iN hs hm).2.1 h0;by_cases hc:up s m<=k
  ·exact hc
  ·have h2:=ZU (show k<=up s m - 1 by omega) (show 0<=m by omega);omega
 ·have:s=0:=by omega
  subst this;unfold up;simp;exact hk
def ov (s m x:Int):Int:=if m=0\/Mc<=x+up s m then Mc else x+up s m
theorem CU {s m x:Int} (hs:0<=s)(hm:0<=m)(hx:0<=x):0<=ov s m x/\ov s m x<=Mc:=by
 unfold ov;split
 ·omega
 ·have:=(iN hs (show 1<=m by omega)).2.2;omega
def tk (m d n W:Int):Int:=if kd m d n=0 then Mc else if W=0 then 0 else if W<=m*d then ov W m 0 else ov (W - m*d) n d
theorem Co {a b:Int} (h:a<=b):decide (kG a b<=0)=true:=by unfold kG;(repeat' split)<;>simp<;>omega
theorem Iy:Value.agg #[Ky,Ky]=wv 0:=ut ρa ρa ρa
theorem Iv:Value.agg fD=nv 0:=iR ρa ρa ρa ρa ρa
theorem fj (a b p:Int)(w:ϖ)(ha:aq a)(hb:aq b)(hp:a*b=p):
  CB 38 #[a,b] w (nv p):=by subst hp;exact Gv a b w ha.1 ha.2 hb.1 hb.2
theorem EM (a x b p:Int)(w:ϖ)(ha:aq a)(hb:aq b)(hx:x=b)(hp:a*b=p):
  CB 38 #[a,x] w (nv p):=by subst hx;exact fj a x p w ha hb hp
theorem lI (a b:Int)(c:Bool)(w:ϖ)(ha:ai a)(hb:ai b)(hc:decide (a<b)=c):
  CB 23 #[nv a,nv b] w (β c):=by subst hc;exact xp a b w ha hb
theorem qD (m d n t:Int)(w:ϖ)(hm:0<=m)(hd:0<=d)(hn:0<=n)(hk:(kd m d n !=0)=false):
  CB 239 #[φ (aP m d n),t] w (wv 0):=by
 unfold CB;go_in;go_wp2_with fail;refine(ji m d n _ ⟨hm,hd,hn⟩ false hk).mono ?_;refine δ2 ?_;intro w1 C1 R1 g1 Jf Rr;go_wp2;exact Eb (w+1) #[Ky,Ky] 232 (by rw[Iy]) τV
theorem qz (m d n t s:Int)(w:ϖ)(hm:0<=m)(hd:0<=d)(hn:0<=n)(ht:aq t)(hs:sk m d n t=s):
  CB 239 #[φ (aP m d n),t] w (wv s):=by
 by_cases hk:kd m d n=0
 ·have:s=0:=by rw[<- hs];unfold sk;rw[ZP hk]
  subst this;exact qD m d n t w hm hd hn (by simp[hk])
 ·have hk':(kd m d n !=0)=true:=bne_iff_ne.2 hk;obtain⟨m1,n1,d1⟩:=gO hk;have Mm:=BH hm hd hn ht.1 ht.2;rw[hs] at Mm;unfold sk sv at hs;rw[ZI hk] at hs;by_cases h:t<=d
  ·rw[ZP h] at hs;exact sT m d n t s 0 s w ⟨hm,m1⟩ ⟨hd,d1⟩ ⟨hn,n1⟩ ht hk' h hs (Int.mul_zero n) (Int.add_zero s) Mm
  ·rw[ZI h] at hs;exact sS m d n t _ _ s w ⟨hm,m1⟩ ⟨hd,d1⟩ ⟨hn,n1⟩ ht hk' ρa rfl rfl hs Mm
theorem oU (m d n t:Int)(w:ϖ)(hm:0<=m)(hd:0<=d)(hn:0<=n)(hk:kd m d n=0):
  CB 90 #[φ (aP m d n),t] w (nv 0):=by
 have Hk:=ag hk;clear hk;unfold CB;go_in;go_wp2_with fail;refine(bi m d n 0 _ hm hd hn Hk.out).mono ?_;refine δj ?_;intro w1 IG C1;have R1:ah w1 (w+1) fD 70:=Zv IG;refine η2 ?_;intro g1 Jf;clear IG;have Rr:=θ2 C1.r R1.r;go_wp2;exact Eb (w+1) fD 70 (by rw[Iv]) τZ
theorem qp (m d n t s k:Int)(w:ϖ)(hm:je m)(hd:kR d)(hn:je n)(ht:aq t)(hk:kd m d n=k)(N7:(k==0)=false)(hh:t<=d)(hp:m*t=s)(s1:ai s):
  CB 90 #[φ (aP m d n),t] w (nv s):=by
 have Hk:=ag hk;clear hk;have Hp:=ag hp;clear hp;have d1:decide (t<=d)=true:=ρJ;unfold CB;go_in;go_wp2_with fail;refine(bi m d n k _ hm.1 hd.1 hn.1 Hk.out).mono ?_;refine δj ?_;intro w1 IG C1;have R1:ah w1 (w+1) fD 70:=Zv IG;refine η2 ?_;intro g1 Jf;clear IG;have Rr:=θ2 C1.r R1.r;go_wp2_with fail;refine(fj m t s _ ρa ρa Hp.out).mono ?_;rintro e w2 ⟨rfl,IW⟩;have C2:=C1.tr IW;have R2:=R1.tr IW;refine η9 ?_;intro g2 Jr;clear IW;replace Rr:=θ2 C2.r R2.r;go_wp2;exact Eb (w+1) (bv s) 70 rfl τZ
theorem qo (m d n t p q s k:Int)(w:ϖ)(hm:je m)(hd:kR d)(hn:je n)(ht:aq t)(hk:kd m d n=k)(N7:(k==0)=false)(hh:d<t)(hp:m*d=p)(hq:n*(t - d)=q)(hs:p+q=s)(s1:ai s):
  CB 90 #[φ (aP m d n),t] w (nv s):=by
 have Hk:=ag hk;clear hk;have Hp:=ag hp;clear hp;have p1:ai p:=il ρa ρa Hp.out;have q1:ai q:=il ρa ρa hq;have Hw:=ag (show IntKind.u64.wrap (t - d)=t - d from ZZ _ ⟨by omega,by omega⟩);have Hq:=ag hq;have Hs:=ag hs;clear hq hs;have d1:decide (t<=d)=false:=ρJ;unfold CB;go_in;go_wp2_with fail;refine(bi m d n k _ hm.1 hd.1 hn.1 Hk.out).mono ?_;refine δj ?_;intro w1 IG C1;have R1:ah w1 (w+1) fD 70:=Zv IG;refine η2 ?_;intro g1 Jf;clear IG;have Rr:=θ2 C1.r R1.r;go_wp2_with fail;go_region_held3 (λv=>Bk v w (aP m d n) 41/\Below w w v) (exact ρH)
  (first
   | (go_at_call 38;(with_reducible refine(fj m d p _ ρa ρa Hp.out).mono ?_);refine bo ?_;intro w' f' IZ IY;have Ji:=R1.tr f';have rR:=Ji.r)
   | (go_at_call 38;(with_reducible refine(EM n _ (t - d) q _ ρa ρa τN Hq.out).mono ?_);refine bo ?_;intro w' f' IZ IY;have Ji:=R1.tr f';have rR:=Ji.r)
   | (go_at_call 59;(with_reducible refine(iq p q s _ p1 q1 Hs.out s1).mono ?_);refine bo ?_;intro w' f' IZ IY;have Ji:=R1.tr f';have rR:=Ji.r))
 all_goals
  (try go_split_ands);go_wp2;exact Eb (w+1) (bv s) 70 rfl τZ
theorem oR (m d n t s:Int)(w:ϖ)(hm:0<=m)(hd:0<=d)(hn:0<=n)(ht:aq t)(hs:sk m d n t=s):
  CB 90 #[φ (aP m d n),t] w (nv s):=by
 by_cases hk:kd m d n=0
 ·have:s=0:=by rw[<- hs];unfold sk;rw[ZP hk]
  subst this;exact oU m d n t w hm hd hn hk
 ·have hk':(kd m d n==0)=false:=ZN.2 hk;obtain⟨m1,n1,d1⟩:=gO hk;have Mm:=BH hm hd hn ht.1 ht.2;rw[hs] at Mm;unfold sk sv at hs;rw[ZI hk] at hs;by_cases h:t<=d
  ·rw[ZP h] at hs;exact qp m d n t s _ w ⟨hm,m1⟩ ⟨hd,d1⟩ ⟨hn,n1⟩ ht rfl hk' h hs Mm
  ·rw[ZI h] at hs;exact qo m d n t _ _ s _ w ⟨hm,m1⟩ ⟨hd,d1⟩ ⟨hn,n1⟩ ht rfl hk' ρa rfl rfl hs Mm
theorem yx {s m:Int} (hs:ai s)(hm:1<=m):0<=up s m/\up s m<=s:=by refine⟨(iN hs.1 hm).2.2,FA hs.1 hm hs.1 ?_⟩;have:=Int.mul_le_mul_of_nonneg_right hm hs.1;omega
theorem tE.big {s m v e:Int} (hs:ai s)(hm:0<=m)(h:tE s m v e)(he:e≠0):m=0\/Mf<=up s m:=by
 rcases h with ⟨h,_⟩|⟨h,h1,_⟩|⟨_,_,_,h⟩
 ·exact .inl h
 ·have:=yx hs h;refine .inr ?_;unfold hi at h1;unfold ai at hs;omega
 ·exact ax h he
theorem tE.ok {s m v:Int} (hs:ai s)(h:tE s m v 0):1<=m/\v=up s m/\0<=v/\v<=Ma:=by
 rcases h with ⟨_,_,h⟩|⟨_,_,_,h⟩|⟨h,h1,h2,_⟩
 ·omega
 ·omega
 ·have:=yx hs h;have:=dO (up s m);refine⟨h,?_,by omega,by omega⟩;rw[h2];unfold hi at h1;unfold lo;unfold ai at hs;omega
abbrev lv (X Y M:Int):ϗ:=φ #[ι υ X,ι υ (hi Y),ι υ (lo Y),ι υ M]
def la (X Y M x:Int):Int:=if x<=X then Y else bp (Y+M*(x - X))
theorem BB {X Y M x:Int} (hY:ai Y):ai (la X Y M x):=by unfold la;split;exact hY;exact jp _
def lr (X Y M W:Int):Int:=if W<=Y then 0 else ov (W - Y) M X
theorem BO (a b c:Int)(o:Bool)(w:ϖ)(ha:ai a)(hb:ai b)(hc:bp (a+b)=c)(ho:decide (340282366920938463463374607431768211456<=a+b)=o):
  CB 249 #[wv a,wv b] w (χ #[wv c,β o]):=by subst hc ho;exact FC a b w ha hb
theorem CE (X Y M x:Int)(w:ϖ)(hX:aq X)(hY:ai Y)(hM:aq M)(hx:aq x)(h:x<=X):
  CB 267 #[lv X Y M,x] w (wv Y):=by
 have d1:decide (x<=X)=true:=ZT h;unfold CB;go_in;go_wp2;exact Eb (w+1) (mi Y) 232 rfl (λ_ cv=>(by simp[results,Tryz.results267,go_sem,cv]))
theorem CC (X Y M x p s:Int)(o:Bool)(w:ϖ)(hX:aq X)(hY:ai Y)(hM:aq M)(hx:aq x)(h:X<x)(hp:M*(x - X)=p)(hs:bp (Y+p)=s)(ho:decide (340282366920938463463374607431768211456<=Y+p)=o):
  CB 267 #[lv X Y M,x] w (wv s):=by
 have d1:=df (x<=X);have p1:ai p:=il ρa ρa hp;have Hw:=ag (show IntKind.u64.wrap (x - X)=x - X from ZZ _ ⟨by omega,by omega⟩);have Hp:=ag hp;have Hs:=ag hs;have Ho:=ag ho;clear hp hs ho;unfold CB;go_in;go_upto_region 3 with (fail);refine aI (λv=>Below w w v/\ah v w #[X,(hi (Y)),(lo (Y)),M] 234/\ah v (w+1) #[Ky,Ky] 232) ⟨ρE,ρB,ρB⟩ ?_;rintro w0 ⟨g0,A0,R0⟩;have Ob:=g0.size;have Rr:=θ2 A0.r R0.r;go_cut [5,6] (λp5 p6 wx=>∃X:Nat,p5=X/\p6=β o/\Below w w wx/\ah wx (w+1) #[Ky,Ky] 232/\ah wx X (mi s) 232);case first=>
  go_region_held3 (λv=>Bk v w #[X,(hi (Y)),(lo (Y)),M] 234/\Below w w v) (exact ρH)
   (first
    | (go_at_call 211;(with_reducible refine(rh M _ (x - X) p _ ρa ρa τN Hp.out).mono ?_);refine bo ?_;intro w' f' IZ IY;(try have hX:=Xb f');(try simp only[World.size_alloc] at hX);(try have rX:=hX.r);have Ji:=R0.tr f';have rR:=Ji.r)
    | (go_at_call 249;(with_reducible refine(BO Y p s o _ hY p1 Hs.out Ho.out).mono ?_);refine bo ?_;intro w' f' IZ IY;(try have hX:=Xb f');(try simp only[World.size_alloc] at hX);(try have rX:=hX.r);have Ji:=R0.tr f';have rR:=Ji.r))
  all_goals
   (try go_split_ands);go_wp2;go_meet;exact⟨_,rfl,rfl,ρE,ρB,ρB⟩
 case rest=>
  clear A0 R0;obtain⟨X,rfl,rfl,g2,R2,X2⟩:=hcut;have cX:=X2.cell;have Ss:=R2.r;have zX:=X2.size;go_wp2;exact Eb (w+1) (mi s) 232 rfl (λ_ cv=>(by simp[results,Tryz.results267,go_sem,cv]))
theorem BC (X Y M x s:Int)(w:ϖ)(hX:aq X)(hY:ai Y)(hM:aq M)(hx:aq x)(hs:la X Y M x=s):
  CB 267 #[lv X Y M,x] w (wv s):=by
 unfold la at hs;by_cases h:x<=X
 ·rw[ZP h] at hs;subst hs;exact CE X Y M x w hX hY hM hx h
 ·rw[ZI h] at hs;exact CC X Y M x _ s _ w hX hY hM hx ρa rfl hs rfl
theorem AH (X Y M W x:Int)(w:ϖ)(hX:aq X)(hY:ai Y)(hM:aq M)(hW:ai W)(hc:kG W Y=x)(hx:decide (x<=0)=true):
  CB 261 #[lv X Y M,wv W] w Ky:=by
 have Hc:=ag hc;clear hc;unfold CB;go_in;go_wp2_with fail;refine δc ?_;intro w1 IG A1 W1;refine η2 ?_;intro g1 Jf;clear IG;have Rr:=θ2 A1.r W1.r;go_wp2;go_ret;exact⟨rfl,ρE⟩
theorem AI (X Y M W x r v e:Int)(w:ϖ)(hX:aq X)(hY:ai Y)(hM:aq M)(hW:ai W)(hc:kG W Y=x)(hx:decide (x<=0)=false)(hr:W - Y=r)(Mn:ai r)(Yl:aq v)(h:tE r M v e)(he:(e !=0)=true):
  CB 261 #[lv X Y M,wv W] w (ι υ Mc):=by
 have Hc:=ag hc;clear hc;have Hr:=ag hr;have H:=ag h;clear hr h;unfold CB;go_in;go_wp2_with fail;refine δc ?_;intro w1 IG A1 W1;refine η2 ?_;intro g1 Jf;clear IG;have Rr:=θ2 A1.r W1.r;go_wp2_with fail;refine δG ?_;clear Rr;intro w2 A2 W2 g2 Jr Rr;go_wp2_with fail;refine δx ?_;intro w3 A3 g3 LD;replace Rr:=A3.r;go_wp2;go_ret;exact⟨rfl,ρE⟩
theorem AJ (X Y M W x r v e:Int)(w:ϖ)(hX:aq X)(hY:ai Y)(hM:aq M)(hW:ai W)(hc:kG W Y=x)(hx:decide (x<=0)=false)(hr:W - Y=r)(Mn:ai r)(Yl:aq v)(h:tE r M v e)(he:(e !=0)=false)(h1:Mc<=X):
  CB 261 #[lv X Y M,wv W] w (ι υ Mc):=by
 have Hc:=ag hc;clear hc;have Hr:=ag hr;have H:=ag h;clear hr h;have d1:decide (Mc<=X)=true:=ZT h1;unfold CB;go_in;go_wp2_with fail;refine δc ?_;intro w1 IG A1 W1;refine η2 ?_;intro g1 Jf;clear IG;have Rr:=θ2 A1.r W1.r;go_wp2_with fail;refine δG ?_;clear Rr;intro w2 A2 W2 g2 Jr Rr;go_wp2_with fail;refine δx ?_;intro w3 A3 g3 LD;replace Rr:=A3.r;go_wp2;go_ret;exact⟨rfl,ρE⟩
theorem AK (X Y M W x r v e:Int)(w:ϖ)(hX:aq X)(hY:ai Y)(hM:aq M)(hW:ai W)(hc:kG W Y=x)(hx:decide (x<=0)=false)(hr:W - Y=r)(Mn:ai r)(Yl:aq v)(h:tE r M v e)(he:(e !=0)=false)(h1:X<Mc)(h2:Mc - X<=v):
  CB 261 #[lv X Y M,wv W] w (ι υ Mc):=by
 have Hc:=ag hc;clear hc;have Hr:=ag hr;have H:=ag h;clear hr h;have d1:=df (Mc<=X);have d2:decide (Mc - X<=v)=true:=ZT h2;unfold CB;go_in;go_wp2_with fail;refine δc ?_;intro w1 IG A1 W1;refine η2 ?_;intro g1 Jf;clear IG;have Rr:=θ2 A1.r W1.r;go_wp2_with fail;refine δG ?_;clear Rr;intro w2 A2 W2 g2 Jr Rr;go_wp2_with fail;refine δx ?_;intro w3 A3 g3 LD;replace Rr:=A3.r;go_wp2;go_ret;exact⟨rfl,ρE⟩
theorem AM (X Y M W x r v e:Int)(w:ϖ)(hX:aq X)(hY:ai Y)(hM:aq M)(hW:ai W)(hc:kG W Y=x)(hx:decide (x<=0)=false)(hr:W - Y=r)(Mn:ai r)(Yl:aq v)(h:tE r M v e)(he:(e !=0)=false)(h1:X<Mc)(h2:v<Mc - X):
  CB 261 #[lv X Y M,wv W] w (ι υ (X+v)):=by
 have Hc:=ag hc;clear hc;have Hr:=ag hr;have H:=ag h;clear hr h;have d1:=df (Mc<=X);have d2:=df (Mc - X<=v);unfold CB;go_in;go_wp2_with fail;refine δc ?_;intro w1 IG A1 W1;refine η2 ?_;intro g1 Jf;clear IG;have Rr:=θ2 A1.r W1.r;go_wp2_with fail;refine δG ?_;clear Rr;intro w2 A2 W2 g2 Jr Rr;go_wp2_with fail;refine δx ?_;intro w3 A3 g3 LD;replace Rr:=A3.r;go_wp2;go_ret;exact⟨rfl,ρE⟩
theorem wR {X Y M W:Int} (hX:0<=X)(hM:0<=M):0<=lr X Y M W/\lr X Y M W<=Mc:=by
 unfold lr;split
 ·omega
 ·exact CU ρa hM hX
theorem CM (X Y M W t:Int)(w:ϖ)(hX:aq X)(hY:ai Y)(hM:aq M)(hW:ai W)(ht:lr X Y M W=t):
  CB 261 #[lv X Y M,wv W] w t:=by
 subst ht;by_cases h0:W<=Y
 ·rw[show lr X Y M W=0 by unfold lr;rw[ZP h0]];exact AH X Y M W _ w hX hY hM hW rfl (Co h0)
 rw[show lr X Y M W=ov (W - Y) M X by unfold lr;rw[ZI h0]];have hx:decide (kG W Y<=0)=false:=by unfold kG;rw[ZI ρa,ZI ρa];rfl
 have Mn:ai (W - Y):=by unfold ai at*;omega
 obtain⟨v,e,h⟩:=tE.ex (W - Y) M hM.1;by_cases he:e=0
 ·subst he;have hk:=h.ok Mn;by_cases h1:Mc<=X
  ·rw[show ov (W - Y) M X=Mc by unfold ov;rw[ZP ρa]];exact AJ X Y M W _ _ v 0 w hX hY hM hW rfl hx rfl Mn hk.2.2 h rfl h1
  ·by_cases h2:v<Mc - X
   ·rw[show ov (W - Y) M X=X+v by unfold ov;rw[ZI ρa];omega];exact AM X Y M W _ _ v 0 w hX hY hM hW rfl hx rfl Mn hk.2.2 h rfl ρa h2
   ·rw[show ov (W - Y) M X=Mc by unfold ov;rw[ZP ρa]];exact AK X Y M W _ _ v 0 w hX hY hM hW rfl hx rfl Mn hk.2.2 h rfl ρa ρa
 ·have hb:=h.big Mn hM.1 he;have Yl:0<=v/\v<=Ma:=by rcases h with ⟨_,h,_⟩|⟨_,_,h,_⟩|⟨_,_,_,h⟩<;>omega
  rw[show ov (W - Y) M X=Mc by unfold ov;rw[ZP ρa]];exact AI X Y M W _ _ v e w hX hY hM hW rfl hx rfl Mn Yl h (bne_iff_ne.2 he)
def lowB (Xa Ya Ma Xb Yb Mb:Int):Bool:=decide (la Xb Yb Mb (max Xa Xb)<la Xa Ya Ma (max Xa Xb))
theorem CI (Xa Ya Ma Xb Yb Mb p q c:Int)(w:ϖ)(Tn:aq Xa)(Sn:ai Ya)(Tl:aq Ma)(To:aq Xb)(Sp:ai Yb)(LP:aq Mb)(hp:la Xa Ya Ma Xa=p)(hq:la Xb Yb Mb Xa=q)(p1:ai p)(q1:ai q)(hg:Xb<=Xa)(hc:kG q p=c)(Jj:decide (c<0)=false):
  CB 248 #[lv Xa Ya Ma,lv Xb Yb Mb] w (lv Xa Ya Ma):=by
 have Hp:=ag hp;have Hq:=ag hq;clear hp hq;have Hc:=ag hc;clear hc;have d1:=df (Xa<Xb);unfold CB;go_in;go_wp2_with fail;refine η6 ?_;intro v1 OE NP SQ Te SO WT WY
 repeat (go_big_quiet_step ((first
   | (go_at_call 267;(with_reducible exact bT (BC Xb Yb Mb Xa q _ To Sp LP ρa Hq.out)))
   | (go_at_call 267;(with_reducible exact bT (BC Xa Ya Ma Xa p _ Tn Sn Tl ρa Hp.out)))
   | (go_at_call 235;(with_reducible exact bT (nF q p c _ q1 p1 Hc.out))))))
 refine wpQuiet_nil ?_;intro _ NG;obtain⟨pq,KN⟩:=NG;subst KN;have IG:=ZW v1 pq.d pq.os;generalize Sort.grow (redrawn v1 pq.d) pq.os=w1 at*;refine η3 ?_;clear IG OE NP SO SQ WT Te WY;intro A1 B1 R1 g1 Jf Rr;go_wp2;exact Eb (w+1+1) #[Xa,(hi (Ya)),(lo (Ya)),Ma] 234 rfl σ8
theorem CJ (Xa Ya Ma Xb Yb Mb p q c:Int)(w:ϖ)(Tn:aq Xa)(Sn:ai Ya)(Tl:aq Ma)(To:aq Xb)(Sp:ai Yb)(LP:aq Mb)(hp:la Xa Ya Ma Xa=p)(hq:la Xb Yb Mb Xa=q)(p1:ai p)(q1:ai q)(hg:Xb<=Xa)(hc:kG q p=c)(Jj:decide (c<0)=true):
  CB 248 #[lv Xa Ya Ma,lv Xb Yb Mb] w (lv Xb Yb Mb):=by
 have Hp:=ag hp;have Hq:=ag hq;clear hp hq;have Hc:=ag hc;clear hc;have d1:=df (Xa<Xb);unfold CB;go_in;go_wp2_with fail;refine η6 ?_;intro v1 OE NP SQ Te SO WT WY
 repeat (go_big_quiet_step ((first
   | (go_at_call 267;(with_reducible exact bT (BC Xb Yb Mb Xa q _ To Sp LP ρa Hq.out)))
   | (go_at_call 267;(with_reducible exact bT (BC Xa Ya Ma Xa p _ Tn Sn Tl ρa Hp.out)))
   | (go_at_call 235;(with_reducible exact bT (nF q p c _ q1 p1 Hc.out))))))
 refine wpQuiet_nil ?_;intro _ NG;obtain⟨pq,KN⟩:=NG;subst KN;have IG:=ZW v1 pq.d pq.os;generalize Sort.grow (redrawn v1 pq.d) pq.os=w1 at*;refine η3 ?_;clear IG OE NP SO SQ WT Te WY;intro A1 B1 R1 g1 Jf Rr;go_wp2;exact Eb (w+1+1) #[Xb,(hi (Yb)),(lo (Yb)),Mb] 234 rfl σ8
theorem CK (Xa Ya Ma Xb Yb Mb p q c:Int)(w:ϖ)(Tn:aq Xa)(Sn:ai Ya)(Tl:aq Ma)(To:aq Xb)(Sp:ai Yb)(LP:aq Mb)(hp:la Xa Ya Ma Xb=p)(hq:la Xb Yb Mb Xb=q)(p1:ai p)(q1:ai q)(hg:Xa<Xb)(hc:kG q p=c)(Jj:decide (c<0)=false):
  CB 248 #[lv Xa Ya Ma,lv Xb Yb Mb] w (lv Xa Ya Ma):=by
 have Hp:=ag hp;have Hq:=ag hq;clear hp hq;have Hc:=ag hc;clear hc;have d1:=dt (Xa<Xb);unfold CB;go_in;go_wp2_with fail;refine η6 ?_;intro v1 OE NP SQ Te SO WT WY
 repeat (go_big_quiet_step ((first
   | (go_at_call 267;(with_reducible exact bT (BC Xb Yb Mb Xb q _ To Sp LP ρa Hq.out)))
   | (go_at_call 267;(with_reducible exact bT (BC Xa Ya Ma Xb p _ Tn Sn Tl ρa Hp.out)))
   | (go_at_call 235;(with_reducible exact bT (nF q p c _ q1 p1 Hc.out))))))
 refine wpQuiet_nil ?_;intro _ NG;obtain⟨pq,KN⟩:=NG;subst KN;have IG:=ZW v1 pq.d pq.os;generalize Sort.grow (redrawn v1 pq.d) pq.os=w1 at*;refine η3 ?_;clear IG OE NP SO SQ WT Te WY;intro A1 B1 R1 g1 Jf Rr;go_wp2;exact Eb (w+1+1) #[Xa,(hi (Ya)),(lo (Ya)),Ma] 234 rfl σ8
theorem CL (Xa Ya Ma Xb Yb Mb p q c:Int)(w:ϖ)(Tn:aq Xa)(Sn:ai Ya)(Tl:aq Ma)(To:aq Xb)(Sp:ai Yb)(LP:aq Mb)(hp:la Xa Ya Ma Xb=p)(hq:la Xb Yb Mb Xb=q)(p1:ai p)(q1:ai q)(hg:Xa<Xb)(hc:kG q p=c)(Jj:decide (c<0)=true):
  CB 248 #[lv Xa Ya Ma,lv Xb Yb Mb] w (lv Xb Yb Mb):=by
 have Hp:=ag hp;have Hq:=ag hq;clear hp hq;have Hc:=ag hc;clear hc;have d1:=dt (Xa<Xb);unfold CB;go_in;go_wp2_with fail;refine η6 ?_;intro v1 OE NP SQ Te SO WT WY
 repeat (go_big_quiet_step ((first
   | (go_at_call 267;(with_reducible exact bT (BC Xb Yb Mb Xb q _ To Sp LP ρa Hq.out)))
   | (go_at_call 267;(with_reducible exact bT (BC Xa Ya Ma Xb p _ Tn Sn Tl ρa Hp.out)))
   | (go_at_call 235;(with_reducible exact bT (nF q p c _ q1 p1 Hc.out))))))
 refine wpQuiet_nil ?_;intro _ NG;obtain⟨pq,KN⟩:=NG;subst KN;have IG:=ZW v1 pq.d pq.os;generalize Sort.grow (redrawn v1 pq.d) pq.os=w1 at*;refine η3 ?_;clear IG OE NP SO SQ WT Te WY;intro A1 B1 R1 g1 Jf Rr;go_wp2;exact Eb (w+1+1) #[Xb,(hi (Yb)),(lo (Yb)),Mb] 234 rfl σ8
theorem Af (Xa Ya Ma Xb Yb Mb X Y M:Int)(w:ϖ)(Tn:aq Xa)(Sn:ai Ya)(Tl:aq Ma)(To:aq Xb)(Sp:ai Yb)(LP:aq Mb)(hr:(lowB Xa Ya Ma Xb Yb Mb=true/\X=Xb/\Y=Yb/\M=Mb)\/(lowB Xa Ya Ma Xb Yb Mb=false/\X=Xa/\Y=Ya/\M=Ma)):
  CB 248 #[lv Xa Ya Ma,lv Xb Yb Mb] w (lv X Y M):=by
 have i1:=BB (X:=Xa) (M:=Ma) (x:=max Xa Xb) Sn;have i2:=BB (X:=Xb) (M:=Mb) (x:=max Xa Xb) Sp;unfold lowB at hr;by_cases hg:Xa<Xb
 ·rw[show max Xa Xb=Xb by omega] at*;rcases hr with ⟨h,rfl,rfl,rfl⟩|⟨h,rfl,rfl,rfl⟩
  ·exact CL _ _ _ _ _ _ _ _ _ w Tn Sn Tl To Sp LP rfl rfl i1 i2 ρa rfl (by have:=of_decide_eq_true h;unfold kG;rw[ZP this];rfl)
  ·exact CK _ _ _ _ _ _ _ _ _ w Tn Sn Tl To Sp LP rfl rfl i1 i2 ρa rfl (by have:=of_decide_eq_false h;unfold kG;rw[ZI this];split<;>rfl)
 ·rw[show max Xa Xb=Xa by omega] at*;rcases hr with ⟨h,rfl,rfl,rfl⟩|⟨h,rfl,rfl,rfl⟩
  ·exact CJ _ _ _ _ _ _ _ _ _ w Tn Sn Tl To Sp LP rfl rfl i1 i2 ρa rfl (by have:=of_decide_eq_true h;unfold kG;rw[ZP this];rfl)
  ·exact CI _ _ _ _ _ _ _ _ _ w Tn Sn Tl To Sp LP rfl rfl i1 i2 ρa rfl (by have:=of_decide_eq_false h;unfold kG;rw[ZI this];split<;>rfl)
def gA (Y M:Int):Prop:=(0<=Y/\Y<1267650600228229401496703205376)/\(0<=M/\M<68719476736)
theorem uW {Y M:Int} (h:gA Y M):ai Y:=by unfold gA at h;unfold ai;omega
theorem ij {X Y M x:Int} (h:gA Y M)(hX:0<=X)(hx:x<=Ma):la X Y M x=if x<=X then Y else Y+M*(x - X):=by
 unfold la;split
 ·rfl
 ·unfold gA at h;have h1:=Int.mul_nonneg h.2.1 (show 0<=x - X by omega);have h2:=Int.mul_le_mul (show M<=68719476735 by omega) (show x - X<=Ma by omega) (show 0<=x - X by omega) ρa;exact iJ ρx
theorem oF {X Y M x:Int} (h:gA Y M)(hX:0<=X)(hx:x<=Ma)(hxx:X<=x):la X Y M x=Y+M*(x - X):=by
 rw[ij h hX hx];split
 ·rw[show x - X=0 by omega,Int.mul_zero,Int.add_zero]
 ·rfl
theorem CT {s m x:Int} (h:ov s m x≠Mc):m≠0/\ov s m x=x+up s m:=by
 unfold ov at h ⊢;split at h
 ·exact ax rfl h
 ·rename_i hh;rw[ZI hh];omega
theorem vp {X Y M W:Int} (h:gA Y M)(hX:aq X)(hW:0<=W)(hn:lr X Y M W≠Mc):W<=la X Y M (lr X Y M W)/\(0<lr X Y M W->la X Y M (lr X Y M W - 1)<W):=by
 have hr:=wR (X:=X) (Y:=Y) (M:=M) (W:=W) hX.1 h.2.1;by_cases h0:W<=Y
 ·have e:lr X Y M W=0:=by unfold lr;rw[ZP h0]
  rw[e];refine⟨?_,by omega⟩;rw[ij h hX.1 ρa,ZP hX.1];exact h0
 ·have e:lr X Y M W=ov (W - Y) M X:=by unfold lr;rw[ZI h0]
  rw[e] at hn hr ⊢;obtain⟨hM,e2⟩:=CT hn;rw[e2] at hr ⊢;have hM1:1<=M:=by unfold gA at h;omega
  have hu:=iN (s:=W - Y) ρa hM1;have h3:=hu.2.1 ρa;refine⟨?_,λ_=>?_⟩
  ·rw[oF h hX.1 ρa ρa,show X+up (W - Y) M - X=up (W - Y) M by omega];omega
  ·rw[oF h hX.1 ρa ρa,show X+up (W - Y) M - 1 - X=up (W - Y) M - 1 by omega];omega
structure LN where
 (X Y M:Int)
structure RN where
 (f t:LN)
 (b:Bool)
def LN.ok (l:LN):Prop:=(0<=l.X/\l.X<=Ma)/\ai l.Y/\(0<=l.M/\l.M<=Ma)
def RN.ok (r:RN):Prop:=r.f.ok/\r.t.ok
def LN.at (l:LN)(x:Int):Int:=la l.X l.Y l.M x
def LN.reach (l:LN)(W:Int):Int:=lr l.X l.Y l.M W
def LN.lowB (a b:LN):Bool:=Go.Proofs.YtfdlemkplejdnaaGreat.lowB a.X a.Y a.M b.X b.Y b.M
def LN.low (a b:LN):LN:=if LN.lowB a b then b else a
def LN.zero:LN:=⟨0,0,0⟩
def RN.reach (r:RN)(W:Int):Int:=if r.b then max (r.f.reach W) (r.t.reach W) else r.t.reach W
def RN.meet (a b:RN):RN:=⟨if a.b then LN.low a.f b.f else LN.zero,LN.low a.t b.t,a.b⟩
def RN.ready (m d n x y:Int):RN:=
 if kd m d n=2\/kd m d n=4 then ⟨LN.zero,⟨x,y,n⟩,false⟩ else if kd m d n=3 then ⟨⟨x,y,m⟩,⟨x,bp (y+(m - n)*d),n⟩,true⟩ else ⟨LN.zero,⟨x,y,0⟩,false⟩
def RN.start (m d n x y:Int):RN:=
 if kd m d n=4 then ⟨LN.zero,⟨x+d,y,n⟩,false⟩ else RN.ready m d n x y
theorem LN.zero_ok:LN.zero.ok:=by unfold LN.ok LN.zero ai;simp
theorem LN.low_ok {a b:LN} (ha:a.ok)(hb:b.ok):(LN.low a b).ok:=by unfold LN.low;split<;>assumption
theorem RN.meet_ok {a b:RN} (ha:a.ok)(hb:b.ok):(RN.meet a b).ok:=by
 refine⟨?_,LN.low_ok ha.2 hb.2⟩;show (if a.b then LN.low a.f b.f else LN.zero).ok;split
 ·exact LN.low_ok ha.1 hb.1
 ·exact LN.zero_ok
theorem LN.reach_rng {l:LN} (h:l.ok)(W:Int):0<=l.reach W/\l.reach W<=Mc:=wR h.1.1 h.2.2.1
theorem RN.reach_rng {r:RN} (h:r.ok)(W:Int):0<=r.reach W/\r.reach W<=Mc:=by have h1:=LN.reach_rng h.1 W;have h2:=LN.reach_rng h.2 W;unfold RN.reach;split<;>omega
theorem RN.ready_ok {m d n x y:Int} (hm:aq m)(hn:aq n)(hx:aq x)(hy:ai y):(RN.ready m d n x y).ok:=by
 unfold RN.ready;split
 ·exact⟨LN.zero_ok,hx,hy,hn⟩
 ·split
  ·exact⟨⟨hx,hy,hm⟩,hx,jp _,hn⟩
  ·exact⟨LN.zero_ok,hx,hy,by simp⟩
theorem RN.start_ok {m d n x y:Int} (hm:aq m)(hd:0<=d)(hn:aq n)(hx:0<=x/\x<=Mc)(hy:ai y):(RN.start m d n x y).ok:=by
 unfold RN.start;split
 ·rename_i h;have:=(gO (show kd m d n≠0 by omega)).2.2;exact⟨LN.zero_ok,⟨by simp;omega,by simp;omega⟩,hy,hn⟩
 ·exact RN.ready_ok hm hn ⟨hx.1,by omega⟩ hy
def LN.small (l:LN):Prop:=gA l.Y l.M/\(0<=l.X/\l.X<=Ma)
theorem LN.small_ok {l:LN} (h:l.small):l.ok:=⟨h.2,uW h.1,by have:=h.1.2;omega⟩
theorem LN.at_mono {l:LN} (h:l.small) {x y:Int} (hxy:x<=y)(hy:y<=Ma):l.at x<=l.at y:=by
 unfold LN.at;rw[ij h.1 h.2.1 ρa,ij h.1 h.2.1 hy];have h1:=h.1.2.1;(repeat' split)
 ·omega
 ·have:=Int.mul_nonneg h1 (show 0<=y - l.X by omega);omega
 ·omega
 ·have:=ZU (show x - l.X<=y - l.X by omega) h1;omega
theorem LN.reach_iff {l:LN} (h:l.small) {W x:Int} (hW:0<=W)(hx:0<=x)(Vq:x<Mc):l.reach W<=x↔W<=l.at x:=by
 have hr:=LN.reach_rng (LN.small_ok h) W;by_cases hn:l.reach W=Mc
 ·refine⟨λh1=>by omega,λh1=>?_⟩;exfalso
  -- at no tick below 2^63
  by_cases h0:W<=l.Y
  ·unfold LN.reach lr at hn;rw[ZP h0] at hn;omega
  ·unfold LN.reach lr at hn;rw[ZI h0] at hn;unfold LN.at at h1;rw[ij h.1 h.2.1 ρa] at h1;split at h1
   ·omega
   ·unfold ov at hn;by_cases hM:l.M=0
    ·rw[hM] at h1;omega
    ·have hM1:1<=l.M:=by have:=h.1.2.1;omega
     have hu:=iN (s:=W - l.Y) ρa hM1;have h3:=hu.2.1 ρa;split at hn
     ·have:=ZU (show x - l.X<=up (W - l.Y) l.M - 1 by omega) (show 0<=l.M by omega);omega
     ·omega
 ·have hs:=vp h.1 h.2 hW hn;constructor
  ·intro h1;exact Int.le_trans hs.1 (LN.at_mono h h1 ρa)
  ·intro h1;by_cases hc:l.reach W<=x
   ·exact hc
   ·exfalso;have h2:=hs.2 (show 0<lr l.X l.Y l.M W by unfold LN.reach at hc;omega);have h3:=LN.at_mono h (x:=x) (y:=l.reach W - 1) ρa ρa;unfold LN.reach LN.at at*;omega
@[go_sem] abbrev nk:Array ϗ:=#[Ky,Ky,Ky,Ky,Ky,Ky,Ky,Ky,dI]
@[go_sem] abbrev fW (r:RN):Array ϗ:=#[r.f.X,(hi (r.f.Y)),(lo (r.f.Y)),r.f.M,r.t.X,(hi (r.t.Y)),(lo (r.t.Y)),r.t.M,β r.b]
@[go_sem] abbrev lh:Array ϗ:=#[dI,Ky,Ky,Ky,Ky,Ky,Ky,Ky,Ky,dI,Ky]
@[go_sem] abbrev eT (h:Bool) (r:RN) (t:Int):Array ϗ:=#[β h,r.f.X,(hi (r.f.Y)),(lo (r.f.Y)),r.f.M,r.t.X,(hi (r.t.Y)),(lo (r.t.Y)),r.t.M,β r.b,t]
@[go_sem] abbrev mE:Array ϗ:=#[dI,Ky,Ky,Ky,Ky,Ky,Ky,Ky,Ky,dI,Ky,Ky,Ky,Ky,Ky,Ky,Ky,Ky,dI,Ky,Ky,Ky]
@[go_sem] abbrev dB (h:Bool) (r q:RN) (p e t:Int):Array ϗ:=#[β h,r.f.X,(hi (r.f.Y)),(lo (r.f.Y)),r.f.M,r.t.X,(hi (r.t.Y)),(lo (r.t.Y)),r.t.M,β r.b,q.f.X,(hi (q.f.Y)),(lo (q.f.Y)),q.f.M,q.t.X,(hi (q.t.Y)),(lo (q.t.Y)),q.t.M,β q.b,p,e,t]
def iO (m d n:Int):Prop:=kd m d n≠0/\(0<=m/\m<=Md)/\(0<=d/\d<=1048576)/\(0<=n/\n<=Md)
theorem iO.of {m d n:Int} (hm:0<=m)(hd:0<=d)(hn:0<=n)(h:kd m d n≠0):iO m d n:=by have:=gO h;exact⟨h,by omega,by omega,by omega⟩
theorem LN.at_lo {l:LN} {x:Int} (h:x<=l.X):l.at x=l.Y:=by unfold LN.at la;rw[ZP h]
theorem LN.at_from {l:LN} (h:l.small) {x:Int} (h1:l.X<=x)(h2:x<=Ma):l.at x=l.Y+l.M*(x - l.X):=oF h.1 h.2.1 h2 h1
abbrev FQ (l:LN):ϗ:=lv l.X l.Y l.M
abbrev bW (r:RN):ϗ:=φ #[ι υ r.f.X,ι υ (hi (r.f.Y)),ι υ (lo (r.f.Y)),ι υ r.f.M,ι υ r.t.X,ι υ (hi (r.t.Y)),ι υ (lo (r.t.Y)),ι υ r.t.M,β r.b]
theorem FG (a x b p:Int)(w:ϖ)(ha:aq a)(hb:aq b)(hx:x=a)(hp:a*b=p):
  CB 211 #[x,b] w (wv p):=by subst hx;exact gk x b p w ha hb hp
theorem ph:hi 0=0:=by decide
theorem Hj:lo 0=0:=by decide
theorem uh (x y n:Int):Value.agg #[Ky,Ky,Ky,Ky,x,(hi y),(lo y),n,dI]=bW ⟨LN.zero,⟨x,y,n⟩,false⟩:=by simp only[bW,LN.zero,ph,Hj]
theorem vr (m d n x y k:Int)(w:ϖ)(hm:aq m)(hd:aq d)(hn:aq n)(hk:kd m d n=k)(k2:(k==2)=true):
  CB 206 #[φ (aP m d n),x,wv y] w (φ #[Ky,Ky,Ky,Ky,x,(hi (y)),(lo (y)),n,dI]):=by
 have Hk:=ag hk;clear hk;unfold CB;go_in;go_wp2_with fail;refine δt ?_;refine δE ?_;intro w1 C1 Y1 R1 g1 Jf;have Rr:=θ3 C1.r Y1.r R1.r;go_wp2;exact Eb (w+1+1) #[Ky,Ky,Ky,Ky,x,(hi (y)),(lo (y)),n,dI] 236 rfl σ9
theorem sO (m d n x y k:Int)(w:ϖ)(hm:aq m)(hd:aq d)(hn:aq n)(hk:kd m d n=k)(k2:(k==2)=false)(k4:(k==4)=true):
  CB 206 #[φ (aP m d n),x,wv y] w (φ #[Ky,Ky,Ky,Ky,x,(hi (y)),(lo (y)),n,dI]):=by
 have Hk:=ag hk;clear hk;unfold CB;go_in;go_wp2_with fail;refine δt ?_;refine δE ?_;intro w1 C1 Y1 R1 g1 Jf;have Rr:=θ3 C1.r Y1.r R1.r;go_wp2;exact Eb (w+1+1) #[Ky,Ky,Ky,Ky,x,(hi (y)),(lo (y)),n,dI] 236 rfl σ9
theorem vq (m d n x y k:Int)(w:ϖ)(hm:aq m)(hd:aq d)(hn:aq n)(hk:kd m d n=k)(k2:(k==2)=false)(k4:(k==4)=false)(k3:(k==3)=false):
  CB 206 #[φ (aP m d n),x,wv y] w (φ #[Ky,Ky,Ky,Ky,x,(hi (y)),(lo (y)),Ky,dI]):=by
 have Hk:=ag hk;clear hk;unfold CB;go_in;go_wp2_with fail;refine δt ?_;refine δE ?_;intro w1 C1 Y1 R1 g1 Jf;have Rr:=θ3 C1.r Y1.r R1.r;go_wp2;exact Eb (w+1+1) #[Ky,Ky,Ky,Ky,x,(hi (y)),(lo (y)),Ky,dI] 236 rfl σ9
theorem xz (m d n x y p s:Int)(o:Bool)(w:ϖ)(hm:aq m)(hd:aq d)(hn:aq n)(hy:ai y)(hk:kd m d n=3)(Mz:n<=m)(hp:(m - n)*d=p)(p1:ai p)(hs:bp (y+p)=s)(ho:decide (340282366920938463463374607431768211456<=y+p)=o):
  CB 206 #[φ (aP m d n),x,wv y] w (φ #[x,(hi (y)),(lo (y)),m,x,(hi (s)),(lo (s)),n,fJ]):=by
 have Hk:=ag hk;clear hk;have Hw:=ag (show IntKind.u64.wrap (m - n)=m - n from ZZ _ ⟨by omega,by omega⟩);have Hp:=ag hp;have Hs:=ag hs;have Ho:=ag ho;clear hp hs ho;unfold CB;go_in;go_wp2_with fail;refine(bU m d n 3 _ hm.1 hd.1 hn.1 Hk.out).mono ?_;refine δE ?_;intro w1 C1 Y1 R1 g1 Jf;replace cC:=C1.cell;replace fC:=C1.frozen;replace zC:=C1.size;replace cY:=Y1.cell;replace fY:=Y1.frozen;replace zY:=Y1.size;have Rr:=R1.r;go_upto_region 6 with (fail);go_cut [7,8] (λp7 p8 wx=>∃X:Nat,p7=X/\p8=β o/\Below w w wx/\ah wx w (aP m d n) 41/\ah wx (w+1) (mi y) 232/\ah wx (w+1+1) nk 236/\ah wx X (mi s) 232);case first=>
  go_region_held3 (λv=>Bk v w (aP m d n) 41/\Bk v (w+1) (mi y) 232/\Below w w v) (exact ρH)
   (first
    | (go_at_call 211;(with_reducible refine(FG (m - n) _ d p _ ρa hd τN Hp.out).mono ?_);refine bo ?_;intro w' f' IZ IY;(try have hX:=Xb f');(try simp only[World.size_alloc] at hX);(try have rX:=hX.r);have Ji:=R1.tr f';have rR:=Ji.r)
    | (go_at_call 249;(with_reducible refine(BO y p s o _ hy p1 Hs.out Ho.out).mono ?_);refine bo ?_;intro w' f' IZ IY;(try have hX:=Xb f');(try simp only[World.size_alloc] at hX);(try have rX:=hX.r);have Ji:=R1.tr f';have rR:=Ji.r))
  all_goals
   (try go_split_ands);go_wp2;go_meet;exact⟨_,rfl,rfl,ρE,ρB,ρB,ρB,ρB⟩
 case rest=>
  clear cC fC zC cY fY zY C1 Y1 R1;obtain⟨X,rfl,rfl,g2,C2,Y2,R2,X2⟩:=hcut;have cC:=C2.cell;have cY:=Y2.cell;have cX:=X2.cell;have Ss:=R2.r;have zX:=X2.size;have zC:=C2.size;have zY:=Y2.size;go_wp2;exact Eb (w+1+1) #[x,(hi (y)),(lo (y)),m,x,(hi (s)),(lo (s)),n,fJ] 236 rfl σ9
theorem iL (m d n x y:Int)(r:RN)(w:ϖ)(hm:aq m)(hd:aq d)(hn:aq n)(hy:ai y)(hr:RN.ready m d n x y=r):
  CB 206 #[φ (aP m d n),x,wv y] w (bW r):=by
 unfold RN.ready at hr;by_cases h24:kd m d n=2\/kd m d n=4
 ·rw[ZP h24] at hr;subst hr;rw[<- uh];by_cases h2:kd m d n=2
  ·exact vr m d n x y _ w hm hd hn rfl (by simp[h2])
  ·exact sO m d n x y _ w hm hd hn rfl (by simp[h2]) ρJ
 ·rw[ZI h24] at hr;by_cases h3:kd m d n=3
  ·rw[ZP h3] at hr;subst hr;have hk:=gO (show kd m d n≠0 by omega);have hp:=(show 0<d/\n<m by unfold kd at h3;(repeat' split at h3)<;>omega);exact xz m d n x y _ _ _ w hm hd hn hy h3 ρa rfl (il ρa ρa rfl) rfl rfl
  ·rw[ZI h3] at hr;subst hr;rw[<- uh];exact vq m d n x y _ w hm hd hn rfl ρJ ρJ ρJ
theorem xW (m d n x y k:Int)(r:RN)(w:ϖ)(hm:aq m)(hd:aq d)(hn:aq n)(hy:ai y)(hr:RN.ready m d n x y=r)(hk:kd m d n=k)(k4:(k==4)=false):
  CB 205 #[φ (aP m d n),x,wv y] w (bW r):=by
 have Hr:=ag hr;have Hk:=ag hk;clear hr hk;unfold CB;go_in;go_wp2_with fail;refine(iL m d n x y r _ hm hd hn hy Hr.out).mono ?_;refine δj ?_;intro w1 IG C1;have R1:ah w1 (w+1+1) nk 236:=Zv IG;refine η2 ?_;intro g1 Jf;clear IG;have Rr:=θ2 C1.r R1.r;go_wp2_with fail;refine δt ?_;rintro e w2 ⟨rfl,IW⟩;have C2:=C1.tr IW;have R2:=R1.tr IW;have Z2:ah w2 w1 (fW r) 236:=Zv IW;refine η9 ?_;intro g2 Jr;clear IW;replace Rr:=θ3 C2.r R2.r Z2.r;go_wp2;exact Eb (w+1+1) (fW r) 236 rfl (λ_ cv=>(by simp[results,Tryz.results205,go_sem,cv]))
theorem vI (m d n x y k:Int)(r:RN)(w:ϖ)(hm:aq m)(hd:aq d)(hn:aq n)(hy:ai y)(hr:RN.ready m d n x y=r)(hk:kd m d n=k)(k4:(k==4)=true)(hX:0<=r.t.X+d/\r.t.X+d<=Ma):
  CB 205 #[φ (aP m d n),x,wv y] w (bW ⟨r.f,⟨r.t.X+d,r.t.Y,r.t.M⟩,r.b⟩):=by
 have Hr:=ag hr;have Hk:=ag hk;clear hr hk;have hwr:IntKind.u64.wrap (r.t.X+d)=r.t.X+d:=ZZ _ hX;unfold CB;go_in;go_wp2_with fail;refine(iL m d n x y r _ hm hd hn hy Hr.out).mono ?_;refine δj ?_;intro w1 IG C1;have R1:ah w1 (w+1+1) nk 236:=Zv IG;refine η2 ?_;intro g1 Jf;clear IG;have Rr:=θ2 C1.r R1.r;go_wp2_with fail;refine δt ?_;rintro e w2 ⟨rfl,IW⟩;have C2:=C1.tr IW;have R2:=R1.tr IW;have Z2:ah w2 w1 (fW r) 236:=Zv IW;refine η9 ?_;intro g2 Jr;clear IW;replace Rr:=θ3 C2.r R2.r Z2.r;go_wp2;exact Eb (w+1+1) #[r.f.X,(hi (r.f.Y)),(lo (r.f.Y)),r.f.M,ι υ (r.t.X+d),(hi (r.t.Y)),(lo (r.t.Y)),r.t.M,β r.b] 236 rfl (λ_ cv=>(by simp[results,Tryz.results205,go_sem,cv]))
theorem dY (m d n x y:Int)(r:RN)(w:ϖ)(hm:aq m)(hd:aq d)(hn:aq n)(hx:0<=x/\x<=Mc)(hy:ai y)(hr:RN.start m d n x y=r):
  CB 205 #[φ (aP m d n),x,wv y] w (bW r):=by
 unfold RN.start at hr;by_cases h4:kd m d n=4
 ·rw[ZP h4] at hr;have Li:=(gO (show kd m d n≠0 by omega)).2.2;subst hr;have e:RN.ready m d n x y=⟨LN.zero,⟨x,y,n⟩,false⟩:=by unfold RN.ready;rw[ZP (.inr h4)]
  exact vI m d n x y _ _ w hm hd hn hy e rfl (by simp[h4]) ⟨by simp only[];omega,by simp only[];omega⟩
 ·rw[ZI h4] at hr;exact xW m d n x y _ r w hm hd hn hy hr rfl (by simp[h4])
theorem CG (a b c:LN)(w:ϖ)(ha:a.ok)(hb:b.ok)(hc:LN.low a b=c):
  CB 248 #[FQ a,FQ b] w (FQ c):=by
 refine Af a.X a.Y a.M b.X b.Y b.M c.X c.Y c.M w ha.1 ha.2.1 ha.2.2 hb.1 hb.2.1 hb.2.2 ?_;subst hc;unfold LN.low LN.lowB;rcases h:Go.Proofs.YtfdlemkplejdnaaGreat.lowB a.X a.Y a.M b.X b.Y b.M with _|_
 ·exact .inr ⟨rfl,by simp⟩
 ·exact .inl ⟨rfl,by simp⟩
theorem sC (a b:RN)(f t:LN)(w:ϖ)(ha:RN.ok a)(hb:RN.ok b)(ZQ:a.b=false)(ht:LN.low a.t b.t=t):
  CB 204 #[bW a,bW b] w (φ #[Ky,Ky,Ky,Ky,t.X,(hi (t.Y)),(lo (t.Y)),t.M,dI]):=by
 have Ht:=ag ht;clear ht;have haf:a.f.ok:=ha.1;have Lq:a.t.ok:=ha.2;have hbf:b.f.ok:=hb.1;have hbt:b.t.ok:=hb.2;rw[bW,ZQ];clear ZQ;unfold CB;go_in;go_upto_region 1 with (fail);refine aI (λv=>Below w w v/\ah v w #[a.f.X,(hi (a.f.Y)),(lo (a.f.Y)),a.f.M,a.t.X,(hi (a.t.Y)),(lo (a.t.Y)),a.t.M,dI] 236/\ah v (w+1) (fW b) 236/\ah v (w+1+1) nk 236) ⟨ρE,ρB,ρB,ρB⟩ ?_;rintro w0 ⟨g0,A0,B0,R0⟩;have Ob:=g0.size;replace cA:=A0.cell;replace fA:=A0.frozen;replace zA:=A0.size;replace cB:=B0.cell;replace fB:=B0.frozen;replace zB:=B0.size;have Rr:=R0.r;go_cut [5] (λp5 wx=>∃X:Nat,p5=X/\Below w w wx/\ah wx w #[a.f.X,(hi (a.f.Y)),(lo (a.f.Y)),a.f.M,a.t.X,(hi (a.t.Y)),(lo (a.t.Y)),a.t.M,dI] 236/\ah wx (w+1) (fW b) 236/\ah wx (w+1+1) nk 236/\ah wx X #[Ky,Ky,Ky,Ky,t.X,(hi (t.Y)),(lo (t.Y)),t.M,dI] 236/\w.heap.size+1+1<X);case first=>
  go_region_held3 (λv=>Bk v w #[a.f.X,(hi (a.f.Y)),(lo (a.f.Y)),a.f.M,a.t.X,(hi (a.t.Y)),(lo (a.t.Y)),a.t.M,dI] 236/\Bk v (w+1) (fW b) 236/\Below w w v) (exact ρH)
   (first
    | (go_at_call 248;(with_reducible refine(CG a.t b.t t _ Lq hbt Ht.out).mono ?_);refine bo ?_;intro w' f' IZ IY;(try have hX:=Xb f');(try simp only[World.size_alloc] at hX);(try have rX:=hX.r);have Ji:=R0.tr f';have rR:=Ji.r))
  all_goals
   (try go_split_ands);go_wp2;go_meet;exact⟨_,rfl,ρE,ρB,ρB,ρB,ρB,by first|omega|(simp;omega)⟩
 case rest=>
  clear cA fA zA cB fB zB A0 B0 R0;obtain⟨X,rfl,g2,A2,B2,R2,X2,zX0⟩:=hcut;have cA:=A2.cell;have zA:=A2.size;have cB:=B2.cell;have zB:=B2.size;have fX:=X2.frozen;have cX:=X2.cell;have Ss:=R2.r;have zX:=X2.size;go_wp2;exact Eb (w+1+1) #[Ky,Ky,Ky,Ky,t.X,(hi (t.Y)),(lo (t.Y)),t.M,dI] 236 rfl (λ_ cv=>(by simp[results,Tryz.results204,go_sem,cv]))
theorem uY (a b:RN)(f t:LN)(w:ϖ)(ha:RN.ok a)(hb:RN.ok b)(ZQ:a.b=true)(ht:LN.low a.t b.t=t)(hf:LN.low a.f b.f=f):
  CB 204 #[bW a,bW b] w (φ #[f.X,(hi (f.Y)),(lo (f.Y)),f.M,t.X,(hi (t.Y)),(lo (t.Y)),t.M,fJ]):=by
 have Ht:=ag ht;clear ht;have Hf:=ag hf;clear hf;have haf:a.f.ok:=ha.1;have Lq:a.t.ok:=ha.2;have hbf:b.f.ok:=hb.1;have hbt:b.t.ok:=hb.2;rw[bW,ZQ];clear ZQ;unfold CB;go_in;go_upto_region 1 with (fail);refine aI (λv=>Below w w v/\ah v w #[a.f.X,(hi (a.f.Y)),(lo (a.f.Y)),a.f.M,a.t.X,(hi (a.t.Y)),(lo (a.t.Y)),a.t.M,fJ] 236/\ah v (w+1) (fW b) 236/\ah v (w+1+1) nk 236) ⟨ρE,ρB,ρB,ρB⟩ ?_;rintro w0 ⟨g0,A0,B0,R0⟩;have Ob:=g0.size;replace cA:=A0.cell;replace fA:=A0.frozen;replace zA:=A0.size;replace cB:=B0.cell;replace fB:=B0.frozen;replace zB:=B0.size;have Rr:=R0.r;go_cut [5] (λp5 wx=>∃X:Nat,p5=X/\Below w w wx/\ah wx w #[a.f.X,(hi (a.f.Y)),(lo (a.f.Y)),a.f.M,a.t.X,(hi (a.t.Y)),(lo (a.t.Y)),a.t.M,fJ] 236/\ah wx (w+1) (fW b) 236/\ah wx (w+1+1) nk 236/\ah wx X #[Ky,Ky,Ky,Ky,t.X,(hi (t.Y)),(lo (t.Y)),t.M,fJ] 236/\w.heap.size+1+1<X);case first=>
  go_region_held3 (λv=>Bk v w #[a.f.X,(hi (a.f.Y)),(lo (a.f.Y)),a.f.M,a.t.X,(hi (a.t.Y)),(lo (a.t.Y)),a.t.M,fJ] 236/\Bk v (w+1) (fW b) 236/\Below w w v) (exact ρH)
   (first
    | (go_at_call 248;(with_reducible refine(CG a.t b.t t _ Lq hbt Ht.out).mono ?_);refine bo ?_;intro w' f' IZ IY;(try have hX:=Xb f');(try simp only[World.size_alloc] at hX);(try have rX:=hX.r);have Ji:=R0.tr f';have rR:=Ji.r))
  all_goals
   (try go_split_ands);go_wp2;go_meet;exact⟨_,rfl,ρE,ρB,ρB,ρB,ρB,by first|omega|(simp;omega)⟩
 case rest=>
  clear cA fA zA cB fB zB A0 B0 R0;obtain⟨X,rfl,g2,A2,B2,R2,X2,zX0⟩:=hcut;have cA:=A2.cell;have zA:=A2.size;have cB:=B2.cell;have zB:=B2.size;have fX:=X2.frozen;have cX:=X2.cell;have Ss:=R2.r;have zX:=X2.size;go_wp2_with fail;refine(CG a.f b.f f _ haf hbf Hf.out).mono ?_;rintro e w3 ⟨rfl,JJ⟩;have R3:ah w3 (w+1+1) nk 236:=Zv JJ;have X3:ah w3 (X) #[Ky,Ky,Ky,Ky,t.X,(hi (t.Y)),(lo (t.Y)),t.M,fJ] 236:=Zv JJ;have g3:=Tg w JJ;have LD:=JJ.size;(try simp at LD);clear JJ;clear Ss;replace Rr:=R3.r;replace cX:=X3.cell;replace fX:=X3.frozen;replace zX:=X3.size;go_upto_region 4 with (fail);refine aI (λv=>Below w w v/\ah v (w+1+1) nk 236/\ah v (X) #[f.X,(hi (f.Y)),(lo (f.Y)),f.M,t.X,(hi (t.Y)),(lo (t.Y)),t.M,fJ] 236) ⟨ρE,ρB,ρB⟩ ?_;rintro w4 ⟨g4,R4,X4⟩;have RR:=g4.size;replace Rr:=R4.r;replace cX:=X4.cell;replace fX:=X4.frozen;replace zX:=X4.size;go_wp2;exact Eb (w+1+1) #[f.X,(hi (f.Y)),(lo (f.Y)),f.M,t.X,(hi (t.Y)),(lo (t.Y)),t.M,fJ] 236 rfl (λ_ cv=>(by simp[results,Tryz.results204,go_sem,cv]))
theorem lD (a b r:RN)(w:ϖ)(ha:a.ok)(hb:b.ok)(hr:RN.meet a b=r):
  CB 204 #[bW a,bW b] w (bW r):=by
 subst hr;rcases h:a.b with _|_
 ·have:=sC a b LN.zero _ w ha hb h rfl;refine this.mono λe w' ⟨h1,h2⟩=>⟨h1.trans (kH ?_),h2⟩;simp only[bW,RN.meet,h,LN.zero,ph,Hj,Bool.false_eq_true,if_false]
 ·have:=uY a b _ _ w ha hb h rfl rfl;refine this.mono λe w' ⟨h1,h2⟩=>⟨h1.trans (kH ?_),h2⟩;simp only[bW,RN.meet,h,if_true]
theorem uA (r:RN)(w:ϖ)(hb:r.b=false):
  CB 260 #[bW r] w (φ #[r.t.X,(hi (r.t.Y)),(lo (r.t.Y)),r.t.M,r.t.X,(hi (r.t.Y)),(lo (r.t.Y)),r.t.M]):=by
 rw[bW,hb];clear hb;unfold CB;go_in;go_wp2;exact Eb (w+1) #[r.t.X,(hi (r.t.Y)),(lo (r.t.Y)),r.t.M,r.t.X,(hi (r.t.Y)),(lo (r.t.Y)),r.t.M] 375 rfl (λ_ cv=>(by simp[results,Tryz.results260,go_sem,cv]))
theorem wj (r:RN)(w:ϖ)(hb:r.b=true):
  CB 260 #[bW r] w (φ #[r.f.X,(hi (r.f.Y)),(lo (r.f.Y)),r.f.M,r.t.X,(hi (r.t.Y)),(lo (r.t.Y)),r.t.M]):=by
 rw[bW,hb];clear hb;unfold CB;go_in;go_wp2;exact Eb (w+1) #[r.f.X,(hi (r.f.Y)),(lo (r.f.Y)),r.f.M,r.t.X,(hi (r.t.Y)),(lo (r.t.Y)),r.t.M] 375 rfl (λ_ cv=>(by simp[results,Tryz.results260,go_sem,cv]))
theorem yS (r:RN)(g:LN)(w:ϖ)(hg:(if r.b=true then r.f else r.t)=g):
  CB 260 #[bW r] w (φ #[g.X,(hi (g.Y)),(lo (g.Y)),g.M,r.t.X,(hi (r.t.Y)),(lo (r.t.Y)),r.t.M]):=by
 subst hg;rcases h:r.b with _|_
 ·simp only[Bool.false_eq_true,if_false];exact uA r w h
 ·simp only[if_true];exact wj r w h
theorem tW (l:LN)(W s:Int)(w:ϖ)(h:l.ok)(hW:ai W)(hs:l.reach W=s):
  CB 261 #[FQ l,wv W] w s:=CM l.X l.Y l.M W s w h.1 h.2.1 h.2.2 hW hs
theorem vA (r:RN)(g:LN)(W p q s:Int)(w:ϖ)(hg:(if r.b=true then r.f else r.t)=g)(og:g.ok)(ot:r.t.ok)(hW:ai W)(hp:g.reach W=p)(hq:r.t.reach W=q)(p0:0<=p)(q0:0<=q)(hs:s=max p q):
  CB 218 #[bW r,wv W] w s:=by
 have Hg:=ag hg;have Hp:=ag hp;have Hq:=ag hq;have Hs:=ag hs;clear hg hp hq hs;have ix0:∀v,(Instr.index 375 (φ #[g.X,(hi (g.Y)),(lo (g.Y)),g.M,r.t.X,(hi (r.t.Y)),(lo (r.t.Y)),r.t.M]) Kz).run Ψ v=.ok (φ #[g.X,(hi (g.Y)),(lo (g.Y)),g.M]) v:=λ_=>by kernel_rfl
 have ix1:∀v,(Instr.index 375 (φ #[g.X,(hi (g.Y)),(lo (g.Y)),g.M,r.t.X,(hi (r.t.Y)),(lo (r.t.Y)),r.t.M]) Ko).run Ψ v=.ok (φ #[r.t.X,(hi (r.t.Y)),(lo (r.t.Y)),r.t.M]) v:=λ_=>by kernel_rfl
 unfold CB;go_in;go_wp2_with fail;refine(yS r g _ Hg.out).mono ?_;rintro e w1 ⟨rfl,IG⟩;have W1:ah w1 (w+1) (mi W) 232:=Zv IG;refine η2 ?_;intro g1 Jf;clear IG;have Rr:=W1.r;go_wp2;refine wp_loop_rounds 3 ?_;rw[cV];go_wp2_with fail;refine(tW g W p _ og hW Hp.out).mono ?_;rintro e w2 ⟨rfl,IW⟩;have W2:=W1.tr IW;refine η9 ?_;intro g2 Jr;clear IW;replace Rr:=W2.r;go_wp2
 all_goals
  rw[cV];go_wp2_with fail;refine(tW r.t W q _ ot hW Hq.out).mono ?_;rintro e w3 ⟨rfl,JJ⟩;have W3:=W2.tr JJ;have g3:=Tg w JJ;have LD:=JJ.size;(try simp at LD);clear JJ;replace Rr:=W3.r;go_wp2
  all_goals
   rw[cV];go_wp2;go_ret;exact⟨dP (by have:=Hs.out;omega),ρE⟩
theorem ir (r:RN)(W s:Int)(w:ϖ)(h:r.ok)(hW:ai W)(hs:r.reach W=s):
  CB 218 #[bW r,wv W] w s:=by
 obtain⟨g,hg⟩:=Nq (if r.b=true then r.f else r.t);have og:g.ok:=by rw[<- hg];split;exact h.1;exact h.2
 refine vA r g W _ _ s w hg og h.2 hW rfl rfl (LN.reach_rng og W).1 (LN.reach_rng h.2 W).1 ?_;rw[<- hs,<- hg];unfold RN.reach;by_cases hb:r.b=true
 ·rw[ZP hb,ZP hb]
 ·rw[ZI hb,ZI hb];omega
end Go.Proofs.YtfdlemkplejdnaaGreat
