/- WholeDelay, part 7. Conditions: none. -/
import Derived.Test.YtfdlemkplejdnaaGreatA3
import Derived.Test.YtfdlemkplejdnaaGreatA4
import Derived.Test.YtfdlemkplejdnaaGreatA5
namespace Go.Proofs.YtfdlemkplejdnaaGreat
open Go.RowKit Go.Sort
open Value renaming int->ι,pointer->ψ,slice->ζ,tuple->χ,agg->φ,map->μ,bool->β
open IntKind renaming u64->υ,i64->ε,u16->ω
open Ending renaming returned->ϰ
open Go.Proofs.Tryz renaming prog->Ψ,underlying3->Θ,underlying147->Δ,underlying152->Γ,underlying202->Φ,underlying39->Ξ,underlying207->Ω
open Go renaming World->ϖ,Value->ϗ
set_option linter.unusedVariables false
set_option linter.unusedSimpArgs false
set_option maxHeartbeats 8000000
set_option maxRecDepth 100000
def IV (n d v e:Int):Prop:=(d=0/\v=0/\e=1)\/(1<=d/\hi (n / d)≠0/\v=0/\e=20)\/(1<=d/\hi (n / d)=0/\v=lo (n / d)/\e=0)
def up (n d:Int):Int:=if n % d=0 then n / d else n / d+1
def sj (n d v e:Int):Prop:=(d=0/\v=0/\e=1)\/(1<=d/\hi (up n d)≠0/\v=0/\e=20)\/(1<=d/\hi (up n d)=0/\v=lo (up n d)/\e=0)
theorem IV.ex (n d:Int)(hd:0<=d):∃v e,IV n d v e:=by
 by_cases h:d=0
 ·exact⟨0,1,.inl ⟨h,rfl,rfl⟩⟩
 ·by_cases h2:hi (n / d)=0
  ·exact⟨lo (n / d),0,.inr (.inr ⟨by omega,h2,rfl,rfl⟩)⟩
  ·exact⟨0,20,.inr (.inl ⟨by omega,h2,rfl,rfl⟩)⟩
theorem sj.ex (n d:Int)(hd:0<=d):∃v e,sj n d v e:=by
 by_cases h:d=0
 ·exact⟨0,1,.inl ⟨h,rfl,rfl⟩⟩
 ·by_cases h2:hi (up n d)=0
  ·exact⟨lo (up n d),0,.inr (.inr ⟨by omega,h2,rfl,rfl⟩)⟩
  ·exact⟨0,20,.inr (.inl ⟨by omega,h2,rfl,rfl⟩)⟩
theorem lN {n d:Int} (hn:ai n)(hd:1<=d):ai (n / d)/\0<=n % d/\n % d<d:=by have h1:=Int.ediv_le_self d hn.1;have h2:=Int.ediv_nonneg hn.1 (show 0<=d by omega);exact⟨⟨h2,by have:=hn.2;omega⟩,Int.emod_nonneg n ρa,Int.emod_lt_of_pos n ρa⟩
theorem Ac {n d:Int} (hn:ai n)(hd:1<=d):ai (n / d+1)\/n % d=0:=by
 by_cases h:n % d=0
 ·exact .inr h
 ·left;have ME:2<=d:=by
   rcases Int.lt_or_le d 2 with h2|h2
   ·have:d=1:=by omega
    subst this;omega
   ·exact h2
  have h0:=Int.ediv_nonneg hn.1 (show 0<=d by omega);have h1:n / d*2<=n:=Int.le_trans (ZU ME h0) (Int.ediv_mul_le n ρa);unfold ai at*;omega
theorem CU (a b q r:Int)(w:ϖ)(ha:ai a)(hb:1<=b)(f':b<=Ma)(hq:a / b=q)(hr:a % b=r):
  CB 288 #[wv a,b] w (χ #[wv q,r,Kz]):=by subst hq hr;exact II a b w ha hb f'
theorem uU (a b q r:Int)(w:ϖ)(ha:ai a)(hb:1<=b)(f':b<=Ma)(hq:a / b=q)(hr:a % b=r):
  CB 58 #[nv a,b] w (χ #[nv q,r]):=by subst hq hr;exact wn a b w ha hb f'
theorem CS {x y:ϗ} {a b c:Int} (hx:x=wv a)(hy:y=wv b)(hc:a+b=c)(w:ϖ)(ha:ai a)(hb:ai b)(Kc:ai c):
  CB 249 #[x,y] w (χ #[wv c,dK]):=by
 subst hx hy hc;have:=GB a b w ha hb;rw[gL Kc,ZF (by unfold ai at Kc;omega)] at this;exact this
theorem GC (a c:Int)(w:ϖ)(ha:ai a)(hc:a+1=c)(Kc:ai c):
  CB 249 #[wv a,wv 1] w (χ #[wv c,dK]):=CS rfl rfl hc w ha ρz Kc
theorem wb (q:Int)(w:ϖ)(h:hi q=0):
  CB 289 #[wv q] w (χ #[(lo q),Kz]):=by
 have b1:(hi q !=0)=false:=by simp[h]
 clear h;unfold CB;go_in;go_wp2;go_returns;exact⟨rfl,ρE⟩
theorem wa (q:Int)(w:ϖ)(h:hi q≠0):
  CB 289 #[wv q] w (χ #[Ky,ι ε 20]):=by
 have b1:(hi q !=0)=true:=bne_iff_ne.2 h;clear h;unfold CB;go_in;go_wp2;go_returns;exact⟨rfl,ρE⟩
theorem qm (q v e:Int)(w:ϖ)(h:(hi q≠0/\v=0/\e=20)\/(hi q=0/\v=lo q/\e=0)):Calls Ψ 289 #[wv q] w λx w'=>x=ϰ (χ #[v,ι ε e])/\Below w w w':=by
 rcases h with ⟨h,rfl,rfl⟩|⟨h,rfl,rfl⟩
 ·exact wa q w h
 ·exact wb q w h
theorem GF (A:Int)(w:ϖ):
  CB 288 #[wv A,Ky] w (χ #[φ #[Ky,Ky],Ky,Ko]):=by
 have:=GD A w;rw[show wv 0=φ #[Ky,Ky] from(vj ρa ρa ρa).symm] at this;exact this
theorem Dl (n d v e:Int)(w:ϖ)(hn:ai n)(hd:aq d)(h:sj n d v e):Calls Ψ 276 #[wv n,d] w λx w'=>x=ϰ (χ #[v,ι ε e])/\Below w w w':=by
 by_cases h0:d=0
 ·obtain⟨rfl,rfl⟩:v=0/\e=1:=by rcases h with h|h|h<;>omega
  subst h0;clear h;go_in;go_wp2_with fail;refine(GF n _).mono ?_;refine δJ ?_;intro w1 g1 J3;go_wp2;go_returns;exact⟨rfl,ρE⟩
 ·have Ob:1<=d:=by omega
  have hN:(hi (up n d)≠0/\v=0/\e=20)\/(hi (up n d)=0/\v=lo (up n d)/\e=0):=by
   rcases h with h|h|h
   ·omega
   ·exact .inl h.2
   ·exact .inr h.2
  have OP:=(lN hn Ob).1;have hu:=Ac hn Ob;by_cases hz:n % d=0
  ·rw[show up n d=n / d by unfold up;rw[ZP hz]] at hN;obtain⟨q,hq⟩:=Nq (n / d);rw[hq] at hN;have Hq:=ag hq;have Hr:=ag hz;have HN:=ag hN;clear h h0 hq hz hN hu;go_in;go_wp2_with fail;refine(CU n d q 0 _ hn Ob hd.2 Hq.out Hr.out).mono ?_;refine δJ ?_;intro w1 g1 J3;go_wp2_with fail;refine(qm q v e _ HN.out).mono ?_;rintro e w2 ⟨rfl,JR⟩;refine η6 ?_;intro g2 KN;clear JR;go_wp2;go_returns;exact⟨rfl,ρE⟩
  ·rw[show up n d=n / d+1 by unfold up;rw[ZI hz]] at hN;have Uo:ai (n / d+1):=by rcases hu with hu|hu;exact hu;exact az hu hz
   obtain⟨q,hq⟩:=Nq (n / d);obtain⟨r,hr⟩:=Nq (n % d);rw[hq] at hN Uo OP;have rb:(r !=0)=true:=by rw[<- hr];exact bne_iff_ne.2 hz
   obtain⟨q1,KV⟩:=Nq (q+1);rw[KV] at hN Uo;have Hq:=ag hq;have Hr:=ag hr;have HN:=ag hN;have Hq1:=ag KV;clear h h0 hq hr hz hN hu KV;go_in;go_wp2_with fail;refine(CU n d q r _ hn Ob hd.2 Hq.out Hr.out).mono ?_;refine δJ ?_;intro w1 g1 J3;go_wp2_with fail;go_region_with (first
     | (go_at_call 241;(with_reducible refine(I7 1 _ ρa ρa).mono ?_);refine bm ?_;intro w' f' JZ JY;have Lg:ah w' w1 (mG q) 232:=Zv f';have rQ:=Lg.r;clear f')
     | (go_at_call 249;(with_reducible refine(GC q q1 _ OP Hq1.out Uo).mono ?_);refine bm ?_;intro w' f' JZ JY;have Lg:ah w' w1 (mG q) 232:=Zv f';have rQ:=Lg.r;clear f'))
   all_goals
    go_wp2_with fail;refine(qm q1 v e _ HN.out).mono ?_;rintro e w4 ⟨rfl,MO⟩;have g4:=Tg w MO;have SI:=MO.size;(try simp at SI);clear MO;go_wp2;go_returns;exact⟨rfl,ρE⟩
theorem kh (a b c:Int)(w:ϖ)(ha:ai a)(hb:ai b)(hs:a+b=c)(hc:ai c):
  CB 59 #[nv a,nv b] w (nv c):=fq rfl rfl w ha hb hs hc
theorem BH (n:Int)(w:ϖ):
  CB 36 #[nv n,Ky] w (φ #[Ky,Ko]):=by
 unfold CB;go_in;go_wp2;go_returns;exact⟨rfl,ρE⟩
theorem yB (n d:Int)(q:Int)(w:ϖ)(hn:ai n)(Ob:1<=d)(ME:d<=Ma)(hq:n / d=q)(hr:n % d=0)(hh:hi q≠0):
  CB 36 #[nv n,d] w (φ #[ι υ (0),ι ε 20]):=by
 have d0:(d==0)=false:=ZN.2 ρa;have b0:(hi q !=0)=true:=bne_iff_ne.2 hh;have Hq:=ag hq;have Hr:=ag hr;clear hq hr hh;unfold CB;go_in;go_wp2_with fail;refine(uU n d q 0 _ hn Ob ME Hq.out Hr.out).mono ?_;refine δy ?_;intro w1 JL A1 R1;refine ηY ?_;intro g1 J3;clear JL;have Rr:=θ2 A1.r R1.r;go_wp2_with fail;refine(FS q _).mono ?_;rintro e w2 ⟨rfl,JR⟩;have A2:=A1.tr JR;have R2:=R1.tr JR;have Q2:ah w2 w1 (bC q) 70:=Zv JR;refine η6 ?_;intro g2 KN;clear JR;replace Rr:=θ3 A2.r R2.r Q2.r;go_wp2;exact Eb (w+1) #[ι υ (0),ι ε (20)] 104 rfl τd
theorem yC (n d:Int)(q:Int)(w:ϖ)(hn:ai n)(Ob:1<=d)(ME:d<=Ma)(hq:n / d=q)(hr:n % d=0)(hh:hi q=0):
  CB 36 #[nv n,d] w (φ #[(lo q),Kz]):=by
 have d0:(d==0)=false:=ZN.2 ρa;have b0:(hi q !=0)=false:=by simp[hh]
 have Hq:=ag hq;have Hr:=ag hr;clear hq hr hh;unfold CB;go_in;go_wp2_with fail;refine(uU n d q 0 _ hn Ob ME Hq.out Hr.out).mono ?_;refine δy ?_;intro w1 JL A1 R1;refine ηY ?_;intro g1 J3;clear JL;have Rr:=θ2 A1.r R1.r;go_wp2_with fail;refine(FS q _).mono ?_;rintro e w2 ⟨rfl,JR⟩;have A2:=A1.tr JR;have R2:=R1.tr JR;have Q2:ah w2 w1 (bC q) 70:=Zv JR;refine η6 ?_;intro g2 KN;clear JR;replace Rr:=θ3 A2.r R2.r Q2.r;go_wp2_with fail;refine(Io q _).mono ?_;rintro e w3 ⟨rfl,KJ⟩;have A3:=A2.tr KJ;have R3:=R2.tr KJ;have Q3:=Q2.tr KJ;have g3:=Tg w KJ;have MU:=KJ.size;(try simp at MU);clear KJ;replace Rr:=θ3 A3.r R3.r Q3.r;go_wp2;exact Eb (w+1) #[(lo q),ι ε (0)] 104 rfl τd
theorem yz (n d:Int)(q r q1:Int)(w:ϖ)(hn:ai n)(Ob:1<=d)(ME:d<=Ma)(hq:n / d=q)(hr:n % d=r)(rb:(r !=0)=true)(rp:0<r)(KV:q+1=q1)(OP:ai q)(hu:ai q1)(hh:hi q1≠0):
  CB 36 #[nv n,d] w (φ #[ι υ (0),ι ε 20]):=by
 have d0:(d==0)=false:=ZN.2 ρa;have b0:(hi q1 !=0)=true:=bne_iff_ne.2 hh;have Hq:=ag hq;have Hr:=ag hr;clear hq hr hh;have Hq1:=ag KV;clear KV;have dr:decide (0<r)=true:=ZT rp;unfold CB;go_in;go_wp2_with fail;refine(uU n d q r _ hn Ob ME Hq.out Hr.out).mono ?_;refine δy ?_;intro w1 JL A1 R1;refine ηY ?_;intro g1 J3;clear JL;have Rr:=θ2 A1.r R1.r;go_wp2_with fail;go_region_with (first
   | (go_at_call 60;(with_reducible refine(BF 1 _ ρa ρa).mono ?_);refine bm ?_;intro w' f' JZ JY;have JQ:=A1.tr f';have rA:=JQ.r;have J':=R1.tr f';have rR:=J'.r;have Lg:ah w' w1 (bC q) 70:=Zv f';have rQ:=Lg.r;clear f')
   | (go_at_call 59;(with_reducible refine(kh q 1 q1 _ OP ρz Hq1.out hu).mono ?_);refine bm ?_;intro w' f' JZ JY;have JQ:=A1.tr f';have rA:=JQ.r;have J':=R1.tr f';have rR:=J'.r;have Lg:ah w' w1 (bC q) 70:=Zv f';have rQ:=Lg.r;clear f'))
 all_goals
  go_wp2_with fail;refine(FS q1 _).mono ?_;rintro e w4 ⟨rfl,MO⟩;have A4:=A1.tr MO;have R4:=R1.tr MO;have Q4:ah w4 w1 (bC q1) 70:=Zv MO;have g4:=Tg w MO;have SI:=MO.size;(try simp at SI);clear MO;replace Rr:=θ3 A4.r R4.r Q4.r;go_wp2;exact Eb (w+1) #[ι υ (0),ι ε (20)] 104 rfl τd
theorem yA (n d:Int)(q r q1:Int)(w:ϖ)(hn:ai n)(Ob:1<=d)(ME:d<=Ma)(hq:n / d=q)(hr:n % d=r)(rb:(r !=0)=true)(rp:0<r)(KV:q+1=q1)(OP:ai q)(hu:ai q1)(hh:hi q1=0):
  CB 36 #[nv n,d] w (φ #[(lo q1),Kz]):=by
 have d0:(d==0)=false:=ZN.2 ρa;have b0:(hi q1 !=0)=false:=by simp[hh]
 have Hq:=ag hq;have Hr:=ag hr;clear hq hr hh;have Hq1:=ag KV;clear KV;have dr:decide (0<r)=true:=ZT rp;unfold CB;go_in;go_wp2_with fail;refine(uU n d q r _ hn Ob ME Hq.out Hr.out).mono ?_;refine δy ?_;intro w1 JL A1 R1;refine ηY ?_;intro g1 J3;clear JL;have Rr:=θ2 A1.r R1.r;go_wp2_with fail;go_region_with (first
   | (go_at_call 60;(with_reducible refine(BF 1 _ ρa ρa).mono ?_);refine bm ?_;intro w' f' JZ JY;have JQ:=A1.tr f';have rA:=JQ.r;have J':=R1.tr f';have rR:=J'.r;have Lg:ah w' w1 (bC q) 70:=Zv f';have rQ:=Lg.r;clear f')
   | (go_at_call 59;(with_reducible refine(kh q 1 q1 _ OP ρz Hq1.out hu).mono ?_);refine bm ?_;intro w' f' JZ JY;have JQ:=A1.tr f';have rA:=JQ.r;have J':=R1.tr f';have rR:=J'.r;have Lg:ah w' w1 (bC q) 70:=Zv f';have rQ:=Lg.r;clear f'))
 all_goals
  go_wp2_with fail;refine(FS q1 _).mono ?_;rintro e w4 ⟨rfl,MO⟩;have A4:=A1.tr MO;have R4:=R1.tr MO;have Q4:ah w4 w1 (bC q1) 70:=Zv MO;have g4:=Tg w MO;have SI:=MO.size;(try simp at SI);clear MO;replace Rr:=θ3 A4.r R4.r Q4.r;go_wp2_with fail;refine(Io q1 _).mono ?_;rintro e w5 ⟨rfl,KD⟩;have A5:=A4.tr KD;have R5:=R4.tr KD;have Q5:=Q4.tr KD;have g5:=Tg w KD;have RP:=KD.size;(try simp at RP);clear KD;replace Rr:=θ3 A5.r R5.r Q5.r;go_wp2;exact Eb (w+1) #[(lo q1),ι ε (0)] 104 rfl τd
theorem uV (n d x y:Int)(w:ϖ)(hn:ai n)(hd:aq d)(h:sj n d x y):
  CB 36 #[nv n,d] w (φ #[x,ι ε y]):=by
 rcases h with ⟨rfl,rfl,rfl⟩|⟨Ob,hh,rfl,rfl⟩|⟨Ob,hh,rfl,rfl⟩
 ·exact BH n w
 ·have OP:=(lN hn Ob).1;by_cases hz:n % d=0
  ·rw[show up n d=n / d by unfold up;rw[ZP hz]] at hh;exact yB n d (n / d) w hn Ob hd.2 rfl hz hh
  ·rw[show up n d=n / d+1 by unfold up;rw[ZI hz]] at hh;exact yz n d (n / d) (n % d) (n / d+1) w hn Ob hd.2 rfl rfl (bne_iff_ne.2 hz) (by have:=(lN hn Ob).2;omega) rfl OP (by rcases Ac hn Ob with hu|hu;exact hu;exact az hu hz) hh
 ·have OP:=(lN hn Ob).1;by_cases hz:n % d=0
  ·rw[show up n d=n / d by unfold up;rw[ZP hz]] at hh ⊢;exact yC n d (n / d) w hn Ob hd.2 rfl hz hh
  ·rw[show up n d=n / d+1 by unfold up;rw[ZI hz]] at hh ⊢;exact yA n d (n / d) (n % d) (n / d+1) w hn Ob hd.2 rfl rfl (bne_iff_ne.2 hz) (by have:=(lN hn Ob).2;omega) rfl OP (by rcases Ac hn Ob with hu|hu;exact hu;exact az hu hz) hh
theorem gA (a b p:Int)(w:ϖ)(ha:aq a)(hb:aq b)(hp:a*b=p):
  CB 211 #[a,b] w (wv p):=by subst hp;exact IJ a b w ha.1 ha.2 hb.1 hb.2
theorem ix {a b p:Int} (ha:aq a)(hb:aq b)(hp:a*b=p):ai p:=by have:=kg a b ha.1 ha.2 hb.1 hb.2;rw[hp] at this;unfold ai;omega
theorem nW (a b k:Int)(w:ϖ)(ha:ai a)(hb:ai b)(h:kS a b=k):
  CB 235 #[wv a,wv b] w (ι ε k):=by subst h;exact Af a b w ha hb
theorem jq (m d n:Int)(w:ϖ)(h:0<=m/\0<=d/\0<=n)(b:Bool)(hb:(kd m d n !=0)=b):
  CB 182 #[φ (aJ m d n)] w (β b):=by
 subst hb;unfold CB;go_in;go_wp2_with fail;refine(bQ m d n _ _ h.1 h.2.1 h.2.2 rfl).mono ?_;refine δJ ?_;intro w1 g1 J3;go_wp2;go_ret;exact⟨rfl,ρE⟩
theorem Ae (a b c:Int)(w:ϖ)(ha:ai a)(hb:ai b)(hc:a+b=c)(Kc:ai c):
  CB 249 #[wv a,wv b] w (χ #[wv c,dK]):=CS rfl rfl hc w ha hb Kc
theorem rW (a x b p:Int)(w:ϖ)(ha:aq a)(hb:aq b)(hx:x=b)(hp:a*b=p):
  CB 211 #[a,x] w (wv p):=by subst hx;exact gA a x p w ha hb hp
theorem tO (m d n t p q s:Int)(w:ϖ)(hm:mR m)(hd:kM d)(hn:mR n)(ht:aq t)(hk:(kd m d n !=0)=true)(hh:d<t)(hp:m*d=p)(hq:n*(t - d)=q)(hs:p+q=s)(s1:ai s):
  CB 239 #[φ (aJ m d n),t] w (wv s):=by
 have p1:ai p:=ix ρa ρa hp;have q1:ai q:=ix ρa ρa hq;have Hw:=ag (show IntKind.u64.wrap (t - d)=(t - d) from ZZ _ ⟨by omega,by omega⟩);have Hp:=ag hp;have Hq:=ag hq;have Hs:=ag hs;clear hp hq hs;unfold CB;go_in;go_wp2_with fail;refine(jq m d n _ ⟨hm.1,hd.1,hn.1⟩ true hk).mono ?_;refine δY ?_;intro w1 C1 R1 g1 J3 Rr;go_upto_region 4 with (fail);go_cut [6,7] (λp6 p7 wx=>∃X:Nat,p6=X/\p7=dK/\Below w w wx/\ah wx (w+1) #[Ky,Ky] 232/\ah wx X (mG s) 232);case first=>
  go_region_held3 (λv=>Bk v w (aJ m d n) 41/\Below w w v) (exact ρH)
   (first
    | (go_at_call 211;(with_reducible refine(gA m d p _ ρa ρa Hp.out).mono ?_);refine bm ?_;intro w' f' JZ JY;(try have hX:=Xb f');(try simp only[World.size_alloc] at hX);(try have rX:=hX.r);have J':=R1.tr f';have rR:=J'.r)
    | (go_at_call 211;(with_reducible refine(rW n _ (t - d) q _ ρa ρa τN Hq.out).mono ?_);refine bm ?_;intro w' f' JZ JY;(try have hX:=Xb f');(try simp only[World.size_alloc] at hX);(try have rX:=hX.r);have J':=R1.tr f';have rR:=J'.r)
    | (go_at_call 249;(with_reducible refine(Ae p q s _ p1 q1 Hs.out s1).mono ?_);refine bm ?_;intro w' f' JZ JY;(try have hX:=Xb f');(try simp only[World.size_alloc] at hX);(try have rX:=hX.r);have J':=R1.tr f';have rR:=J'.r))
  all_goals
   (try go_split_ands);go_wp2;go_meet;exact⟨_,rfl,rfl,ρE,ρB,ρB⟩
 case rest=>
  exact ηs
theorem tP (m d n t p q s:Int)(w:ϖ)(hm:mR m)(hd:kM d)(hn:mR n)(ht:aq t)(hk:(kd m d n !=0)=true)(hh:t<=d)(hp:m*t=p)(hq:n*0=q)(hs:p+q=s)(s1:ai s):
  CB 239 #[φ (aJ m d n),t] w (wv s):=by
 have p1:ai p:=ix ρa ρa hp;have q1:ai q:=ix ρa ρa hq;have Hw:=ag (show IntKind.u64.wrap 0=0 from ZZ _ ⟨by omega,by omega⟩);have Hp:=ag hp;have Hq:=ag hq;have Hs:=ag hs;clear hp hq hs;unfold CB;go_in;go_wp2_with fail;refine(jq m d n _ ⟨hm.1,hd.1,hn.1⟩ true hk).mono ?_;refine δY ?_;intro w1 C1 R1 g1 J3 Rr;go_upto_region 4 with (fail);go_cut [6,7] (λp6 p7 wx=>∃X:Nat,p6=X/\p7=dK/\Below w w wx/\ah wx (w+1) #[Ky,Ky] 232/\ah wx X (mG s) 232);case first=>
  go_region_held3 (λv=>Bk v w (aJ m d n) 41/\Below w w v) (exact ρH)
   (first
    | (go_at_call 211;(with_reducible refine(gA m t p _ ρa ρa Hp.out).mono ?_);refine bm ?_;intro w' f' JZ JY;(try have hX:=Xb f');(try simp only[World.size_alloc] at hX);(try have rX:=hX.r);have J':=R1.tr f';have rR:=J'.r)
    | (go_at_call 211;(with_reducible refine(rW n _ 0 q _ ρa ρa τN Hq.out).mono ?_);refine bm ?_;intro w' f' JZ JY;(try have hX:=Xb f');(try simp only[World.size_alloc] at hX);(try have rX:=hX.r);have J':=R1.tr f';have rR:=J'.r)
    | (go_at_call 249;(with_reducible refine(Ae p q s _ p1 q1 Hs.out s1).mono ?_);refine bm ?_;intro w' f' JZ JY;(try have hX:=Xb f');(try simp only[World.size_alloc] at hX);(try have rX:=hX.r);have J':=R1.tr f';have rR:=J'.r))
  all_goals
   (try go_split_ands);go_wp2;go_meet;exact⟨_,rfl,rfl,ρE,ρB,ρB⟩
 case rest=>
  exact ηs
theorem GI (a b c:Int)(w:ϖ)(ha:ai a)(hb:ai b)(hc:a - b=c)(Kc:ai c):
  CB 275 #[wv a,wv b] w (χ #[wv c,dK]):=by
 have:=IK a b w ha hb;rw[hc,gL Kc,ZF (by unfold ai at Kc;omega)] at this;exact this
theorem ia {m d n:Int} (h:kd m d n≠0):m<=Md/\n<=Md/\d<=1048576:=by unfold kd at h;(repeat' split at h)<;>omega
def sv (m d n t:Int):Int:=if t<=d then m*t else m*d+n*(t - d)
def sk (m d n t:Int):Int:=if kd m d n=0 then 0 else sv m d n t
theorem mA {m d n t:Int} (hm:mR m)(hd:0<=d)(hn:mR n)(ht:0<=t):0<=sv m d n t/\sv m d n t<=Md*t:=by
 unfold sv;split
 ·exact⟨Int.mul_nonneg hm.1 ht,Int.mul_le_mul_of_nonneg_right hm.2 ht⟩
 ·have h1:=Int.mul_nonneg hm.1 hd;have h2:=Int.mul_nonneg hn.1 (show 0<=t - d by omega);have h3:=Int.mul_le_mul_of_nonneg_right hm.2 hd;have h4:=Int.mul_le_mul_of_nonneg_right hn.2 (show 0<=t - d by omega);omega
theorem yZ {m d n t:Int} (hm:0<=m)(hd:0<=d)(hn:0<=n)(ht:0<=t):0<=sk m d n t/\sk m d n t<=Md*t:=by
 unfold sk;split
 ·omega
 ·rename_i h;have:=ia h;exact mA ⟨hm,this.1⟩ hd ⟨hn,this.2.1⟩ ht
theorem CJ {m d n t:Int} (hm:0<=m)(hd:0<=d)(hn:0<=n)(ht:0<=t)(ht':t<=Ma):ai (sk m d n t):=by have:=yZ hm hd hn ht;unfold ai;omega
theorem ph (m d n t:Int):sv m d n t=n*t+(m - n)*min t d:=by
 unfold sv;split
 ·rw[Int.min_eq_left (by assumption),Int.sub_mul];omega
 ·rw[Int.min_eq_right ρa,Int.sub_mul,Int.mul_sub];omega
theorem BW {m d n t u:Int} (hm:0<=m)(hn:0<=n)(h:t<=u):sv m d n t<=sv m d n u:=by
 unfold sv;split<;>split
 ·exact ZU h hm
 ·have h1:=ZU (show t<=d by omega) hm;have h2:=Int.mul_nonneg hn (show 0<=u - d by omega);omega
 ·omega
 ·have h2:=ZU (show t - d<=u - d by omega) hn;omega
theorem jK {s m:Int} (hs:0<=s)(hm:1<=m):s<=m*up s m/\(0<s->1<=up s m/\m*(up s m - 1)<s)/\0<=up s m:=by
 have h1:=Int.mul_ediv_add_emod s m;have h2:=Int.emod_nonneg s (show m≠0 by omega);have h3:=Int.emod_lt_of_pos s (show 0<m by omega);have h4:=Int.ediv_nonneg hs (show 0<=m by omega);unfold up;split
 ·refine⟨by omega,λh=>?_,h4⟩;have:s / m≠0:=by intro h0;rw[h0] at h1;omega
  refine⟨by omega,?_⟩;rw[Int.mul_sub];omega
 ·refine⟨by rw[Int.mul_add];omega,λh=>⟨by omega,?_⟩,by omega⟩;rw[show s / m+1 - 1=s / m by omega];omega
theorem Gz {s m k:Int} (hs:0<=s)(hm:1<=m)(hk:0<=k)(h:s<=m*k):up s m<=k:=by
 rcases Int.lt_or_le 0 s with h0|h0
 ·have:=(jK hs hm).2.1 h0;by_cases hc:up s m<=k
  ·exact hc
  ·have h2:=ZU (show k<=up s m - 1 by omega) (show 0<=m by omega);omega
 ·have:s=0:=by omega
  subst this;unfold up;simp;exact hk
def ov (s m x:Int):Int:=if m=0\/Mc<=x+up s m then Mc else x+up s m
theorem DT {s m x:Int} (hs:0<=s)(hm:0<=m)(hx:0<=x):0<=ov s m x/\ov s m x<=Mc:=by
 unfold ov;split
 ·omega
 ·have:=(jK hs (show 1<=m by omega)).2.2;omega
def tk (m d n W:Int):Int:=if kd m d n=0 then Mc else if W=0 then 0 else if W<=m*d then ov W m 0 else ov (W - m*d) n d
theorem Do {a b:Int} (h:a<=b):decide (kS a b<=0)=true:=by unfold kS;(repeat' split)<;>simp<;>omega
theorem JD:Value.agg #[Ky,Ky]=wv 0:=vj ρa ρa ρa
theorem Jz:Value.agg f9=nv 0:=iX ρa ρa ρa ρa ρa
theorem jD (a b p:Int)(w:ϖ)(ha:aq a)(hb:aq b)(hp:a*b=p):
  CB 38 #[a,b] w (nv p):=by subst hp;exact Ip a b w ha.1 ha.2 hb.1 hb.2
theorem FT (a x b p:Int)(w:ϖ)(ha:aq a)(hb:aq b)(hx:x=b)(hp:a*b=p):
  CB 38 #[a,x] w (nv p):=by subst hx;exact jD a x p w ha hb hp
theorem jc (a b:Int)(c:Bool)(w:ϖ)(ha:ai a)(hb:ai b)(hc:decide (a<b)=c):
  CB 23 #[nv a,nv b] w (β c):=by subst hc;exact yw a b w ha hb
theorem ro (m d n t:Int)(w:ϖ)(hm:0<=m)(hd:0<=d)(hn:0<=n)(hk:(kd m d n !=0)=false):
  CB 239 #[φ (aJ m d n),t] w (wv 0):=by
 unfold CB;go_in;go_wp2_with fail;refine(jq m d n _ ⟨hm,hd,hn⟩ false hk).mono ?_;refine δY ?_;intro w1 C1 R1 g1 J3 Rr;go_wp2;exact Eb (w+1) #[Ky,Ky] 232 (by rw[JD]) τV
theorem rm (m d n t s:Int)(w:ϖ)(hm:0<=m)(hd:0<=d)(hn:0<=n)(ht:aq t)(hs:sk m d n t=s):
  CB 239 #[φ (aJ m d n),t] w (wv s):=by
 by_cases hk:kd m d n=0
 ·have:s=0:=by rw[<- hs];unfold sk;rw[ZP hk]
  subst this;exact ro m d n t w hm hd hn (by simp[hk])
 ·have hk':(kd m d n !=0)=true:=bne_iff_ne.2 hk;obtain⟨m1,n1,d1⟩:=ia hk;have Np:=CJ hm hd hn ht.1 ht.2;rw[hs] at Np;unfold sk sv at hs;rw[ZI hk] at hs;by_cases h:t<=d
  ·rw[ZP h] at hs;exact tP m d n t s 0 s w ⟨hm,m1⟩ ⟨hd,d1⟩ ⟨hn,n1⟩ ht hk' h hs (Int.mul_zero n) (Int.add_zero s) Np
  ·rw[ZI h] at hs;exact tO m d n t _ _ s w ⟨hm,m1⟩ ⟨hd,d1⟩ ⟨hn,n1⟩ ht hk' ρa rfl rfl hs Np
theorem oY (m d n t:Int)(w:ϖ)(hm:0<=m)(hd:0<=d)(hn:0<=n)(hk:kd m d n=0):
  CB 90 #[φ (aJ m d n),t] w (nv 0):=by
 have Hk:=ag hk;clear hk;unfold CB;go_in;go_wp2_with fail;refine(bM m d n 0 _ hm hd hn Hk.out).mono ?_;refine δh ?_;intro w1 JL C1;have R1:ah w1 (w+1) f9 70:=Zv JL;refine ηY ?_;intro g1 J3;clear JL;have Rr:=θ2 C1.r R1.r;go_wp2;exact Eb (w+1) f9 70 (by rw[Jz]) τZ
theorem q9 (m d n t s k:Int)(w:ϖ)(hm:mR m)(hd:kM d)(hn:mR n)(ht:aq t)(hk:kd m d n=k)(MG:(k==0)=false)(hh:t<=d)(hp:m*t=s)(s1:ai s):
  CB 90 #[φ (aJ m d n),t] w (nv s):=by
 have Hk:=ag hk;clear hk;have Hp:=ag hp;clear hp;have d1:decide (t<=d)=true:=ρJ;unfold CB;go_in;go_wp2_with fail;refine(bM m d n k _ hm.1 hd.1 hn.1 Hk.out).mono ?_;refine δh ?_;intro w1 JL C1;have R1:ah w1 (w+1) f9 70:=Zv JL;refine ηY ?_;intro g1 J3;clear JL;have Rr:=θ2 C1.r R1.r;go_wp2_with fail;refine(jD m t s _ ρa ρa Hp.out).mono ?_;rintro e w2 ⟨rfl,JR⟩;have C2:=C1.tr JR;have R2:=R1.tr JR;refine η6 ?_;intro g2 KN;clear JR;replace Rr:=θ2 C2.r R2.r;go_wp2;exact Eb (w+1) (bC s) 70 rfl τZ
theorem q7 (m d n t p q s k:Int)(w:ϖ)(hm:mR m)(hd:kM d)(hn:mR n)(ht:aq t)(hk:kd m d n=k)(MG:(k==0)=false)(hh:d<t)(hp:m*d=p)(hq:n*(t - d)=q)(hs:p+q=s)(s1:ai s):
  CB 90 #[φ (aJ m d n),t] w (nv s):=by
 have Hk:=ag hk;clear hk;have Hp:=ag hp;clear hp;have p1:ai p:=ix ρa ρa Hp.out;have q1:ai q:=ix ρa ρa hq;have Hw:=ag (show IntKind.u64.wrap (t - d)=t - d from ZZ _ ⟨by omega,by omega⟩);have Hq:=ag hq;have Hs:=ag hs;clear hq hs;have d1:decide (t<=d)=false:=ρJ;unfold CB;go_in;go_wp2_with fail;refine(bM m d n k _ hm.1 hd.1 hn.1 Hk.out).mono ?_;refine δh ?_;intro w1 JL C1;have R1:ah w1 (w+1) f9 70:=Zv JL;refine ηY ?_;intro g1 J3;clear JL;have Rr:=θ2 C1.r R1.r;go_wp2_with fail;go_region_held3 (λv=>Bk v w (aJ m d n) 41/\Below w w v) (exact ρH)
  (first
   | (go_at_call 38;(with_reducible refine(jD m d p _ ρa ρa Hp.out).mono ?_);refine bm ?_;intro w' f' JZ JY;have J':=R1.tr f';have rR:=J'.r)
   | (go_at_call 38;(with_reducible refine(FT n _ (t - d) q _ ρa ρa τN Hq.out).mono ?_);refine bm ?_;intro w' f' JZ JY;have J':=R1.tr f';have rR:=J'.r)
   | (go_at_call 59;(with_reducible refine(kh p q s _ p1 q1 Hs.out s1).mono ?_);refine bm ?_;intro w' f' JZ JY;have J':=R1.tr f';have rR:=J'.r))
 all_goals
  (try go_split_ands);go_wp2;exact Eb (w+1) (bC s) 70 rfl τZ
theorem oX (m d n t s:Int)(w:ϖ)(hm:0<=m)(hd:0<=d)(hn:0<=n)(ht:aq t)(hs:sk m d n t=s):
  CB 90 #[φ (aJ m d n),t] w (nv s):=by
 by_cases hk:kd m d n=0
 ·have:s=0:=by rw[<- hs];unfold sk;rw[ZP hk]
  subst this;exact oY m d n t w hm hd hn hk
 ·have hk':(kd m d n==0)=false:=ZN.2 hk;obtain⟨m1,n1,d1⟩:=ia hk;have Np:=CJ hm hd hn ht.1 ht.2;rw[hs] at Np;unfold sk sv at hs;rw[ZI hk] at hs;by_cases h:t<=d
  ·rw[ZP h] at hs;exact q9 m d n t s _ w ⟨hm,m1⟩ ⟨hd,d1⟩ ⟨hn,n1⟩ ht rfl hk' h hs Np
  ·rw[ZI h] at hs;exact q7 m d n t _ _ s _ w ⟨hm,m1⟩ ⟨hd,d1⟩ ⟨hn,n1⟩ ht rfl hk' ρa rfl rfl hs Np
theorem CR {s m:Int} (hs:ai s)(hm:1<=m):0<=up s m/\up s m<=s:=by refine⟨(jK hs.1 hm).2.2,Gz hs.1 hm hs.1 ?_⟩;have:=Int.mul_le_mul_of_nonneg_right hm hs.1;omega
theorem sj.big {s m v e:Int} (hs:ai s)(hm:0<=m)(h:sj s m v e)(he:e≠0):m=0\/Mf<=up s m:=by
 rcases h with ⟨h,_⟩|⟨h,h1,_⟩|⟨_,_,_,h⟩
 ·exact .inl h
 ·have:=CR hs h;refine .inr ?_;unfold hi at h1;unfold ai at hs;omega
 ·exact az h he
theorem sj.ok {s m v:Int} (hs:ai s)(h:sj s m v 0):1<=m/\v=up s m/\0<=v/\v<=Ma:=by
 rcases h with ⟨_,_,h⟩|⟨_,_,_,h⟩|⟨h,h1,h2,_⟩
 ·omega
 ·omega
 ·have:=CR hs h;have:=dR (up s m);refine⟨h,?_,by omega,by omega⟩;rw[h2];unfold hi at h1;unfold lo;unfold ai at hs;omega
abbrev lv (X Y M:Int):ϗ:=φ #[ι υ X,ι υ (hi Y),ι υ (lo Y),ι υ M]
def la (X Y M x:Int):Int:=if x<=X then Y else bf (Y+M*(x - X))
theorem CC {X Y M x:Int} (hY:ai Y):ai (la X Y M x):=by unfold la;split;exact hY;exact jz _
def lr (X Y M W:Int):Int:=if W<=Y then 0 else ov (W - Y) M X
theorem CT (a b c:Int)(o:Bool)(w:ϖ)(ha:ai a)(hb:ai b)(hc:bf (a+b)=c)(ho:decide (340282366920938463463374607431768211456<=a+b)=o):
  CB 249 #[wv a,wv b] w (χ #[wv c,β o]):=by subst hc ho;exact GB a b w ha hb
theorem DC (X Y M x:Int)(w:ϖ)(hX:aq X)(hY:ai Y)(hM:aq M)(hx:aq x)(h:x<=X):
  CB 267 #[lv X Y M,x] w (wv Y):=by
 have d1:decide (x<=X)=true:=ZT h;unfold CB;go_in;go_wp2;exact Eb (w+1) (mG Y) 232 rfl (λ_ cv=>(by simp[results,Tryz.results267,go_sem,cv]))
theorem DB (X Y M x p s:Int)(o:Bool)(w:ϖ)(hX:aq X)(hY:ai Y)(hM:aq M)(hx:aq x)(h:X<x)(hp:M*(x - X)=p)(hs:bf (Y+p)=s)(ho:decide (340282366920938463463374607431768211456<=Y+p)=o):
  CB 267 #[lv X Y M,x] w (wv s):=by
 have d1:=df (x<=X);have p1:ai p:=ix ρa ρa hp;have Hw:=ag (show IntKind.u64.wrap (x - X)=x - X from ZZ _ ⟨by omega,by omega⟩);have Hp:=ag hp;have Hs:=ag hs;have Ho:=ag ho;clear hp hs ho;unfold CB;go_in;go_upto_region 3 with (fail);refine aH (λv=>Below w w v/\ah v w #[X,(hi (Y)),(lo (Y)),M] 234/\ah v (w+1) #[Ky,Ky] 232) ⟨ρE,ρB,ρB⟩ ?_;rintro w0 ⟨g0,A0,R0⟩;have Ra:=g0.size;have Rr:=θ2 A0.r R0.r;go_cut [5,6] (λp5 p6 wx=>∃X:Nat,p5=X/\p6=β o/\Below w w wx/\ah wx (w+1) #[Ky,Ky] 232/\ah wx X (mG s) 232);case first=>
  go_region_held3 (λv=>Bk v w #[X,(hi (Y)),(lo (Y)),M] 234/\Below w w v) (exact ρH)
   (first
    | (go_at_call 211;(with_reducible refine(rW M _ (x - X) p _ ρa ρa τN Hp.out).mono ?_);refine bm ?_;intro w' f' JZ JY;(try have hX:=Xb f');(try simp only[World.size_alloc] at hX);(try have rX:=hX.r);have J':=R0.tr f';have rR:=J'.r)
    | (go_at_call 249;(with_reducible refine(CT Y p s o _ hY p1 Hs.out Ho.out).mono ?_);refine bm ?_;intro w' f' JZ JY;(try have hX:=Xb f');(try simp only[World.size_alloc] at hX);(try have rX:=hX.r);have J':=R0.tr f';have rR:=J'.r))
  all_goals
   (try go_split_ands);go_wp2;go_meet;exact⟨_,rfl,rfl,ρE,ρB,ρB⟩
 case rest=>
  clear A0 R0;obtain⟨X,rfl,rfl,g2,R2,X2⟩:=hcut;have cX:=X2.cell;have Ss:=R2.r;have zX:=X2.size;go_wp2;exact Eb (w+1) (mG s) 232 rfl (λ_ cv=>(by simp[results,Tryz.results267,go_sem,cv]))
theorem lat (X Y M x s:Int)(w:ϖ)(hX:aq X)(hY:ai Y)(hM:aq M)(hx:aq x)(hs:la X Y M x=s):
  CB 267 #[lv X Y M,x] w (wv s):=by
 unfold la at hs;by_cases h:x<=X
 ·rw[ZP h] at hs;subst hs;exact DC X Y M x w hX hY hM hx h
 ·rw[ZI h] at hs;exact DB X Y M x _ s _ w hX hY hM hx ρa rfl hs rfl
theorem BI (X Y M W x:Int)(w:ϖ)(hX:aq X)(hY:ai Y)(hM:aq M)(hW:ai W)(hc:kS W Y=x)(hx:decide (x<=0)=true):
  CB 261 #[lv X Y M,wv W] w Ky:=by
 have Hc:=ag hc;clear hc;unfold CB;go_in;go_wp2_with fail;refine η8 ?_;intro w1 JL A1 W1;refine ηY ?_;intro g1 J3;clear JL;have Rr:=θ2 A1.r W1.r;go_wp2;go_ret;exact⟨rfl,ρE⟩
theorem BJ (X Y M W x r v e:Int)(w:ϖ)(hX:aq X)(hY:ai Y)(hM:aq M)(hW:ai W)(hc:kS W Y=x)(hx:decide (x<=0)=false)(hr:W - Y=r)(Ns:ai r)(Ts:aq v)(h:sj r M v e)(he:(e !=0)=true):
  CB 261 #[lv X Y M,wv W] w (ι υ Mc):=by
 have Hc:=ag hc;clear hc;have Hr:=ag hr;have H:=ag h;clear hr h;unfold CB;go_in;go_wp2_with fail;refine η8 ?_;intro w1 JL A1 W1;refine ηY ?_;intro g1 J3;clear JL;have Rr:=θ2 A1.r W1.r;go_wp2_with fail;refine δC ?_;clear Rr;intro w2 A2 W2 g2 KN Rr;go_wp2_with fail;refine δu ?_;intro w3 A3 g3 MU;replace Rr:=A3.r;go_wp2;go_ret;exact⟨rfl,ρE⟩
theorem BK (X Y M W x r v e:Int)(w:ϖ)(hX:aq X)(hY:ai Y)(hM:aq M)(hW:ai W)(hc:kS W Y=x)(hx:decide (x<=0)=false)(hr:W - Y=r)(Ns:ai r)(Ts:aq v)(h:sj r M v e)(he:(e !=0)=false)(h1:Mc<=X):
  CB 261 #[lv X Y M,wv W] w (ι υ Mc):=by
 have Hc:=ag hc;clear hc;have Hr:=ag hr;have H:=ag h;clear hr h;have d1:decide (Mc<=X)=true:=ZT h1;unfold CB;go_in;go_wp2_with fail;refine η8 ?_;intro w1 JL A1 W1;refine ηY ?_;intro g1 J3;clear JL;have Rr:=θ2 A1.r W1.r;go_wp2_with fail;refine δC ?_;clear Rr;intro w2 A2 W2 g2 KN Rr;go_wp2_with fail;refine δu ?_;intro w3 A3 g3 MU;replace Rr:=A3.r;go_wp2;go_ret;exact⟨rfl,ρE⟩
theorem BL (X Y M W x r v e:Int)(w:ϖ)(hX:aq X)(hY:ai Y)(hM:aq M)(hW:ai W)(hc:kS W Y=x)(hx:decide (x<=0)=false)(hr:W - Y=r)(Ns:ai r)(Ts:aq v)(h:sj r M v e)(he:(e !=0)=false)(h1:X<Mc)(h2:Mc - X<=v):
  CB 261 #[lv X Y M,wv W] w (ι υ Mc):=by
 have Hc:=ag hc;clear hc;have Hr:=ag hr;have H:=ag h;clear hr h;have d1:=df (Mc<=X);have d2:decide (Mc - X<=v)=true:=ZT h2;unfold CB;go_in;go_wp2_with fail;refine η8 ?_;intro w1 JL A1 W1;refine ηY ?_;intro g1 J3;clear JL;have Rr:=θ2 A1.r W1.r;go_wp2_with fail;refine δC ?_;clear Rr;intro w2 A2 W2 g2 KN Rr;go_wp2_with fail;refine δu ?_;intro w3 A3 g3 MU;replace Rr:=A3.r;go_wp2;go_ret;exact⟨rfl,ρE⟩
theorem BM (X Y M W x r v e:Int)(w:ϖ)(hX:aq X)(hY:ai Y)(hM:aq M)(hW:ai W)(hc:kS W Y=x)(hx:decide (x<=0)=false)(hr:W - Y=r)(Ns:ai r)(Ts:aq v)(h:sj r M v e)(he:(e !=0)=false)(h1:X<Mc)(h2:v<Mc - X):
  CB 261 #[lv X Y M,wv W] w (ι υ (X+v)):=by
 have Hc:=ag hc;clear hc;have Hr:=ag hr;have H:=ag h;clear hr h;have d1:=df (Mc<=X);have d2:=df (Mc - X<=v);unfold CB;go_in;go_wp2_with fail;refine η8 ?_;intro w1 JL A1 W1;refine ηY ?_;intro g1 J3;clear JL;have Rr:=θ2 A1.r W1.r;go_wp2_with fail;refine δC ?_;clear Rr;intro w2 A2 W2 g2 KN Rr;go_wp2_with fail;refine δu ?_;intro w3 A3 g3 MU;replace Rr:=A3.r;go_wp2;go_ret;exact⟨rfl,ρE⟩
theorem xT {X Y M W:Int} (hX:0<=X)(hM:0<=M):0<=lr X Y M W/\lr X Y M W<=Mc:=by
 unfold lr;split
 ·omega
 ·exact DT ρa hM hX
theorem DJ (X Y M W t:Int)(w:ϖ)(hX:aq X)(hY:ai Y)(hM:aq M)(hW:ai W)(ht:lr X Y M W=t):
  CB 261 #[lv X Y M,wv W] w t:=by
 subst ht;by_cases h0:W<=Y
 ·rw[show lr X Y M W=0 by unfold lr;rw[ZP h0]];exact BI X Y M W _ w hX hY hM hW rfl (Do h0)
 rw[show lr X Y M W=ov (W - Y) M X by unfold lr;rw[ZI h0]];have hx:decide (kS W Y<=0)=false:=by unfold kS;rw[ZI ρa,ZI ρa];rfl
 have Ns:ai (W - Y):=by unfold ai at*;omega
 obtain⟨v,e,h⟩:=sj.ex (W - Y) M hM.1;by_cases he:e=0
 ·subst he;have hk:=h.ok Ns;by_cases h1:Mc<=X
  ·rw[show ov (W - Y) M X=Mc by unfold ov;rw[ZP ρa]];exact BK X Y M W _ _ v 0 w hX hY hM hW rfl hx rfl Ns hk.2.2 h rfl h1
  ·by_cases h2:v<Mc - X
   ·rw[show ov (W - Y) M X=X+v by unfold ov;rw[ZI ρa];omega];exact BM X Y M W _ _ v 0 w hX hY hM hW rfl hx rfl Ns hk.2.2 h rfl ρa h2
   ·rw[show ov (W - Y) M X=Mc by unfold ov;rw[ZP ρa]];exact BL X Y M W _ _ v 0 w hX hY hM hW rfl hx rfl Ns hk.2.2 h rfl ρa ρa
 ·have hb:=h.big Ns hM.1 he;have Ts:0<=v/\v<=Ma:=by rcases h with ⟨_,h,_⟩|⟨_,_,h,_⟩|⟨_,_,_,h⟩<;>omega
  rw[show ov (W - Y) M X=Mc by unfold ov;rw[ZP ρa]];exact BJ X Y M W _ _ v e w hX hY hM hW rfl hx rfl Ns Ts h (bne_iff_ne.2 he)
def lowB (Xa Ya Ma Xb Yb Mb:Int):Bool:=decide (la Xb Yb Mb (max Xa Xb)<la Xa Ya Ma (max Xa Xb))
theorem DF (Xa Ya Ma Xb Yb Mb p q c:Int)(w:ϖ)(Sr:aq Xa)(Tj:ai Ya)(Ub:aq Ma)(St:aq Xb)(Tl:ai Yb)(MY:aq Mb)(hp:la Xa Ya Ma Xa=p)(hq:la Xb Yb Mb Xa=q)(p1:ai p)(q1:ai q)(hg:Xb<=Xa)(hc:kS q p=c)(Kc:decide (c<0)=false):
  CB 248 #[lv Xa Ya Ma,lv Xb Yb Mb] w (lv Xa Ya Ma):=by
 have Hp:=ag hp;have Hq:=ag hq;clear hp hq;have Hc:=ag hc;clear hc;have d1:=df (Xa<Xb);unfold CB;go_in;go_wp2_with fail;refine η2 ?_;intro v1 Px OC TJ TS TH XF XH
 repeat (go_big_quiet_step ((first
   | (go_at_call 267;(with_reducible exact bZ (lat Xb Yb Mb Xa q _ St Tl MY ρa Hq.out)))
   | (go_at_call 267;(with_reducible exact bZ (lat Xa Ya Ma Xa p _ Sr Tj Ub ρa Hp.out)))
   | (go_at_call 235;(with_reducible exact bZ (nW q p c _ q1 p1 Hc.out))))))
 refine wpQuiet_nil ?_;intro _ Ov;obtain⟨pq,LX⟩:=Ov;subst LX;have JL:=ZW v1 pq.d pq.os;generalize Sort.grow (redrawn v1 pq.d) pq.os=w1 at*;refine ηZ ?_;clear JL Px OC TH TJ XF TS XH;intro A1 B1 R1 g1 J3 Rr;go_wp2;exact Eb (w+1+1) #[Xa,(hi (Ya)),(lo (Ya)),Ma] 234 rfl σ8
theorem DG (Xa Ya Ma Xb Yb Mb p q c:Int)(w:ϖ)(Sr:aq Xa)(Tj:ai Ya)(Ub:aq Ma)(St:aq Xb)(Tl:ai Yb)(MY:aq Mb)(hp:la Xa Ya Ma Xa=p)(hq:la Xb Yb Mb Xa=q)(p1:ai p)(q1:ai q)(hg:Xb<=Xa)(hc:kS q p=c)(Kc:decide (c<0)=true):
  CB 248 #[lv Xa Ya Ma,lv Xb Yb Mb] w (lv Xb Yb Mb):=by
 have Hp:=ag hp;have Hq:=ag hq;clear hp hq;have Hc:=ag hc;clear hc;have d1:=df (Xa<Xb);unfold CB;go_in;go_wp2_with fail;refine η2 ?_;intro v1 Px OC TJ TS TH XF XH
 repeat (go_big_quiet_step ((first
   | (go_at_call 267;(with_reducible exact bZ (lat Xb Yb Mb Xa q _ St Tl MY ρa Hq.out)))
   | (go_at_call 267;(with_reducible exact bZ (lat Xa Ya Ma Xa p _ Sr Tj Ub ρa Hp.out)))
   | (go_at_call 235;(with_reducible exact bZ (nW q p c _ q1 p1 Hc.out))))))
 refine wpQuiet_nil ?_;intro _ Ov;obtain⟨pq,LX⟩:=Ov;subst LX;have JL:=ZW v1 pq.d pq.os;generalize Sort.grow (redrawn v1 pq.d) pq.os=w1 at*;refine ηZ ?_;clear JL Px OC TH TJ XF TS XH;intro A1 B1 R1 g1 J3 Rr;go_wp2;exact Eb (w+1+1) #[Xb,(hi (Yb)),(lo (Yb)),Mb] 234 rfl σ8
theorem DH (Xa Ya Ma Xb Yb Mb p q c:Int)(w:ϖ)(Sr:aq Xa)(Tj:ai Ya)(Ub:aq Ma)(St:aq Xb)(Tl:ai Yb)(MY:aq Mb)(hp:la Xa Ya Ma Xb=p)(hq:la Xb Yb Mb Xb=q)(p1:ai p)(q1:ai q)(hg:Xa<Xb)(hc:kS q p=c)(Kc:decide (c<0)=false):
  CB 248 #[lv Xa Ya Ma,lv Xb Yb Mb] w (lv Xa Ya Ma):=by
 have Hp:=ag hp;have Hq:=ag hq;clear hp hq;have Hc:=ag hc;clear hc;have d1:=dt (Xa<Xb);unfold CB;go_in;go_wp2_with fail;refine η2 ?_;intro v1 Px OC TJ TS TH XF XH
 repeat (go_big_quiet_step ((first
   | (go_at_call 267;(with_reducible exact bZ (lat Xb Yb Mb Xb q _ St Tl MY ρa Hq.out)))
   | (go_at_call 267;(with_reducible exact bZ (lat Xa Ya Ma Xb p _ Sr Tj Ub ρa Hp.out)))
   | (go_at_call 235;(with_reducible exact bZ (nW q p c _ q1 p1 Hc.out))))))
 refine wpQuiet_nil ?_;intro _ Ov;obtain⟨pq,LX⟩:=Ov;subst LX;have JL:=ZW v1 pq.d pq.os;generalize Sort.grow (redrawn v1 pq.d) pq.os=w1 at*;refine ηZ ?_;clear JL Px OC TH TJ XF TS XH;intro A1 B1 R1 g1 J3 Rr;go_wp2;exact Eb (w+1+1) #[Xa,(hi (Ya)),(lo (Ya)),Ma] 234 rfl σ8
theorem DI (Xa Ya Ma Xb Yb Mb p q c:Int)(w:ϖ)(Sr:aq Xa)(Tj:ai Ya)(Ub:aq Ma)(St:aq Xb)(Tl:ai Yb)(MY:aq Mb)(hp:la Xa Ya Ma Xb=p)(hq:la Xb Yb Mb Xb=q)(p1:ai p)(q1:ai q)(hg:Xa<Xb)(hc:kS q p=c)(Kc:decide (c<0)=true):
  CB 248 #[lv Xa Ya Ma,lv Xb Yb Mb] w (lv Xb Yb Mb):=by
 have Hp:=ag hp;have Hq:=ag hq;clear hp hq;have Hc:=ag hc;clear hc;have d1:=dt (Xa<Xb);unfold CB;go_in;go_wp2_with fail;refine η2 ?_;intro v1 Px OC TJ TS TH XF XH
 repeat (go_big_quiet_step ((first
   | (go_at_call 267;(with_reducible exact bZ (lat Xb Yb Mb Xb q _ St Tl MY ρa Hq.out)))
   | (go_at_call 267;(with_reducible exact bZ (lat Xa Ya Ma Xb p _ Sr Tj Ub ρa Hp.out)))
   | (go_at_call 235;(with_reducible exact bZ (nW q p c _ q1 p1 Hc.out))))))
 refine wpQuiet_nil ?_;intro _ Ov;obtain⟨pq,LX⟩:=Ov;subst LX;have JL:=ZW v1 pq.d pq.os;generalize Sort.grow (redrawn v1 pq.d) pq.os=w1 at*;refine ηZ ?_;clear JL Px OC TH TJ XF TS XH;intro A1 B1 R1 g1 J3 Rr;go_wp2;exact Eb (w+1+1) #[Xb,(hi (Yb)),(lo (Yb)),Mb] 234 rfl σ8
theorem Bf (Xa Ya Ma Xb Yb Mb X Y M:Int)(w:ϖ)(Sr:aq Xa)(Tj:ai Ya)(Ub:aq Ma)(St:aq Xb)(Tl:ai Yb)(MY:aq Mb)(hr:(lowB Xa Ya Ma Xb Yb Mb=true/\X=Xb/\Y=Yb/\M=Mb)\/(lowB Xa Ya Ma Xb Yb Mb=false/\X=Xa/\Y=Ya/\M=Ma)):
  CB 248 #[lv Xa Ya Ma,lv Xb Yb Mb] w (lv X Y M):=by
 have i1:=CC (X:=Xa) (M:=Ma) (x:=max Xa Xb) Tj;have i2:=CC (X:=Xb) (M:=Mb) (x:=max Xa Xb) Tl;unfold lowB at hr;by_cases hg:Xa<Xb
 ·rw[show max Xa Xb=Xb by omega] at*;rcases hr with ⟨h,rfl,rfl,rfl⟩|⟨h,rfl,rfl,rfl⟩
  ·exact DI _ _ _ _ _ _ _ _ _ w Sr Tj Ub St Tl MY rfl rfl i1 i2 ρa rfl (by have:=of_decide_eq_true h;unfold kS;rw[ZP this];rfl)
  ·exact DH _ _ _ _ _ _ _ _ _ w Sr Tj Ub St Tl MY rfl rfl i1 i2 ρa rfl (by have:=of_decide_eq_false h;unfold kS;rw[ZI this];split<;>rfl)
 ·rw[show max Xa Xb=Xa by omega] at*;rcases hr with ⟨h,rfl,rfl,rfl⟩|⟨h,rfl,rfl,rfl⟩
  ·exact DG _ _ _ _ _ _ _ _ _ w Sr Tj Ub St Tl MY rfl rfl i1 i2 ρa rfl (by have:=of_decide_eq_true h;unfold kS;rw[ZP this];rfl)
  ·exact DF _ _ _ _ _ _ _ _ _ w Sr Tj Ub St Tl MY rfl rfl i1 i2 ρa rfl (by have:=of_decide_eq_false h;unfold kS;rw[ZI this];split<;>rfl)
def eX (Y M:Int):Prop:=(0<=Y/\Y<1267650600228229401496703205376)/\(0<=M/\M<68719476736)
theorem vW {Y M:Int} (h:eX Y M):ai Y:=by unfold eX at h;unfold ai;omega
theorem iw {X Y M x:Int} (h:eX Y M)(hX:0<=X)(hx:x<=Ma):la X Y M x=if x<=X then Y else Y+M*(x - X):=by
 unfold la;split
 ·rfl
 ·unfold eX at h;have h1:=Int.mul_nonneg h.2.1 (show 0<=x - X by omega);have h2:=Int.mul_le_mul (show M<=68719476735 by omega) (show x - X<=Ma by omega) (show 0<=x - X by omega) ρa;exact gL ρz
theorem jy {X Y M x:Int} (h:eX Y M)(hX:0<=X)(hx:x<=Ma)(hxx:X<=x):la X Y M x=Y+M*(x - X):=by
 rw[iw h hX hx];split
 ·rw[show x - X=0 by omega,Int.mul_zero,Int.add_zero]
 ·rfl
theorem DR {s m x:Int} (h:ov s m x≠Mc):m≠0/\ov s m x=x+up s m:=by
 unfold ov at h ⊢;split at h
 ·exact az rfl h
 ·rename_i hh;rw[ZI hh];omega
theorem wu {X Y M W:Int} (h:eX Y M)(hX:aq X)(hW:0<=W)(hn:lr X Y M W≠Mc):W<=la X Y M (lr X Y M W)/\(0<lr X Y M W->la X Y M (lr X Y M W - 1)<W):=by
 have hr:=xT (X:=X) (Y:=Y) (M:=M) (W:=W) hX.1 h.2.1;by_cases h0:W<=Y
 ·have e:lr X Y M W=0:=by unfold lr;rw[ZP h0]
  rw[e];refine⟨?_,by omega⟩;rw[iw h hX.1 ρa,ZP hX.1];exact h0
 ·have e:lr X Y M W=ov (W - Y) M X:=by unfold lr;rw[ZI h0]
  rw[e] at hn hr ⊢;obtain⟨hM,e2⟩:=DR hn;rw[e2] at hr ⊢;have hM1:1<=M:=by unfold eX at h;omega
  have hu:=jK (s:=W - Y) ρa hM1;have h3:=hu.2.1 ρa;refine⟨?_,λ_=>?_⟩
  ·rw[jy h hX.1 ρa ρa,show X+up (W - Y) M - X=up (W - Y) M by omega];omega
  ·rw[jy h hX.1 ρa ρa,show X+up (W - Y) M - 1 - X=up (W - Y) M - 1 by omega];omega
theorem uE {X Y M x y:Int} (h:eX Y M)(hX:0<=X)(h1:X<=x)(h2:x<=y)(hy:y<=Ma):la X Y M y=la X Y M x+M*(y - x):=by rw[jy h hX hy ρa,jy h hX ρa h1,Int.mul_sub,Int.mul_sub,Int.mul_sub];omega
theorem xS {Xa Ya Xb Yb M x:Int} (ha:eX Ya M)(hb:eX Yb M)(Sr:0<=Xa)(St:0<=Xb)(h1:Xa<=x)(h2:Xb<=x)(hx:x<=Ma):
  (lowB Xa Ya M Xb Yb M=true->la Xb Yb M x<=la Xa Ya M x)/\(lowB Xa Ya M Xb Yb M=false->la Xa Ya M x<=la Xb Yb M x):=by
 have e1:=uE (x:=max Xa Xb) (y:=x) ha Sr ρa ρa hx;have e2:=uE (x:=max Xa Xb) (y:=x) hb St ρa ρa hx;unfold lowB;constructor
 ·intro h;have:=of_decide_eq_true h;omega
 ·intro h;have:=of_decide_eq_false h;omega
structure LN where
 (X Y M:Int)
structure RN where
 (f t:LN)
 (b:Bool)
def LN.ok (l:LN):Prop:=(0<=l.X/\l.X<=Ma)/\ai l.Y/\(0<=l.M/\l.M<=Ma)
def RN.ok (r:RN):Prop:=r.f.ok/\r.t.ok
def LN.at (l:LN)(x:Int):Int:=la l.X l.Y l.M x
def LN.reach (l:LN)(W:Int):Int:=lr l.X l.Y l.M W
def LN.lowB (a b:LN):Bool:=Go.Proofs.YtfdlemkplejdnaaGreat.lowB a.X a.Y a.M b.X b.Y b.M
def LN.low (a b:LN):LN:=if LN.lowB a b then b else a
def LN.zero:LN:=⟨0,0,0⟩
def RN.at (r:RN)(x:Int):Int:=if r.b then (if r.f.at x<r.t.at x then r.f.at x else r.t.at x) else r.t.at x
def RN.reach (r:RN)(W:Int):Int:=if r.b then max (r.f.reach W) (r.t.reach W) else r.t.reach W
def RN.meet (a b:RN):RN:=⟨if a.b then LN.low a.f b.f else LN.zero,LN.low a.t b.t,a.b⟩
def RN.ready (m d n x y:Int):RN:=
 if kd m d n=2\/kd m d n=4 then ⟨LN.zero,⟨x,y,n⟩,false⟩ else if kd m d n=3 then ⟨⟨x,y,m⟩,⟨x,bf (y+(m - n)*d),n⟩,true⟩ else ⟨LN.zero,⟨x,y,0⟩,false⟩
def RN.start (m d n x y:Int):RN:=
 if kd m d n=4 then ⟨LN.zero,⟨x+d,y,n⟩,false⟩ else RN.ready m d n x y
theorem LN.zero_ok:LN.zero.ok:=by unfold LN.ok LN.zero ai;simp
theorem LN.low_ok {a b:LN} (ha:a.ok)(hb:b.ok):(LN.low a b).ok:=by unfold LN.low;split<;>assumption
theorem RN.meet_ok {a b:RN} (ha:a.ok)(hb:b.ok):(RN.meet a b).ok:=by
 refine⟨?_,LN.low_ok ha.2 hb.2⟩;show (if a.b then LN.low a.f b.f else LN.zero).ok;split
 ·exact LN.low_ok ha.1 hb.1
 ·exact LN.zero_ok
theorem LN.reach_rng {l:LN} (h:l.ok)(W:Int):0<=l.reach W/\l.reach W<=Mc:=xT h.1.1 h.2.2.1
theorem RN.reach_rng {r:RN} (h:r.ok)(W:Int):0<=r.reach W/\r.reach W<=Mc:=by have h1:=LN.reach_rng h.1 W;have h2:=LN.reach_rng h.2 W;unfold RN.reach;split<;>omega
theorem RN.ready_ok {m d n x y:Int} (hm:aq m)(hn:aq n)(hx:aq x)(hy:ai y):(RN.ready m d n x y).ok:=by
 unfold RN.ready;split
 ·exact⟨LN.zero_ok,hx,hy,hn⟩
 ·split
  ·exact⟨⟨hx,hy,hm⟩,hx,jz _,hn⟩
  ·exact⟨LN.zero_ok,hx,hy,by simp⟩
theorem RN.start_ok {m d n x y:Int} (hm:aq m)(hd:0<=d)(hn:aq n)(hx:0<=x/\x<=Mc)(hy:ai y):(RN.start m d n x y).ok:=by
 unfold RN.start;split
 ·rename_i h;have:=(ia (show kd m d n≠0 by omega)).2.2;exact⟨LN.zero_ok,⟨by simp;omega,by simp;omega⟩,hy,hn⟩
 ·exact RN.ready_ok hm hn ⟨hx.1,by omega⟩ hy
def LN.small (l:LN):Prop:=eX l.Y l.M/\(0<=l.X/\l.X<=Ma)
theorem LN.small_ok {l:LN} (h:l.small):l.ok:=⟨h.2,vW h.1,by have:=h.1.2;omega⟩
theorem LN.at_mono {l:LN} (h:l.small) {x y:Int} (hxy:x<=y)(hy:y<=Ma):l.at x<=l.at y:=by
 unfold LN.at;rw[iw h.1 h.2.1 ρa,iw h.1 h.2.1 hy];have h1:=h.1.2.1;(repeat' split)
 ·omega
 ·have:=Int.mul_nonneg h1 (show 0<=y - l.X by omega);omega
 ·omega
 ·have:=ZU (show x - l.X<=y - l.X by omega) h1;omega
theorem LN.reach_iff {l:LN} (h:l.small) {W x:Int} (hW:0<=W)(hx:0<=x)(Tt:x<Mc):l.reach W<=x↔W<=l.at x:=by
 have hr:=LN.reach_rng (LN.small_ok h) W;by_cases hn:l.reach W=Mc
 ·refine⟨λh1=>by omega,λh1=>?_⟩;exfalso
  -- at no tick below 2^63
  by_cases h0:W<=l.Y
  ·unfold LN.reach lr at hn;rw[ZP h0] at hn;omega
  ·unfold LN.reach lr at hn;rw[ZI h0] at hn;unfold LN.at at h1;rw[iw h.1 h.2.1 ρa] at h1;split at h1
   ·omega
   ·unfold ov at hn;by_cases hM:l.M=0
    ·rw[hM] at h1;omega
    ·have hM1:1<=l.M:=by have:=h.1.2.1;omega
     have hu:=jK (s:=W - l.Y) ρa hM1;have h3:=hu.2.1 ρa;split at hn
     ·have:=ZU (show x - l.X<=up (W - l.Y) l.M - 1 by omega) (show 0<=l.M by omega);omega
     ·omega
 ·have hs:=wu h.1 h.2 hW hn;constructor
  ·intro h1;exact Int.le_trans hs.1 (LN.at_mono h h1 ρa)
  ·intro h1;by_cases hc:l.reach W<=x
   ·exact hc
   ·exfalso;have h2:=hs.2 (show 0<lr l.X l.Y l.M W by unfold LN.reach at hc;omega);have h3:=LN.at_mono h (x:=x) (y:=l.reach W - 1) ρa ρa;unfold LN.reach LN.at at*;omega
def RN.small (r:RN):Prop:=r.f.small/\r.t.small
theorem RN.small_ok {r:RN} (h:r.small):r.ok:=⟨LN.small_ok h.1,LN.small_ok h.2⟩
theorem RN.reach_iff {r:RN} (h:r.small) {W x:Int} (hW:0<=W)(hx:0<=x)(Tt:x<Mc):r.reach W<=x↔W<=r.at x:=by have h1:=LN.reach_iff h.1 hW hx Tt;have h2:=LN.reach_iff h.2 hW hx Tt;unfold RN.reach RN.at;(repeat' split)<;>omega
@[go_sem] abbrev nA:Array ϗ:=#[Ky,Ky,Ky,Ky,Ky,Ky,Ky,Ky,dK]
@[go_sem] abbrev f8 (r:RN):Array ϗ:=#[r.f.X,(hi (r.f.Y)),(lo (r.f.Y)),r.f.M,r.t.X,(hi (r.t.Y)),(lo (r.t.Y)),r.t.M,β r.b]
@[go_sem] abbrev lH:Array ϗ:=#[dK,Ky,Ky,Ky,Ky,Ky,Ky,Ky,Ky,dK,Ky]
@[go_sem] abbrev eT (h:Bool) (r:RN) (t:Int):Array ϗ:=#[β h,r.f.X,(hi (r.f.Y)),(lo (r.f.Y)),r.f.M,r.t.X,(hi (r.t.Y)),(lo (r.t.Y)),r.t.M,β r.b,t]
@[go_sem] abbrev mT:Array ϗ:=#[dK,Ky,Ky,Ky,Ky,Ky,Ky,Ky,Ky,dK,Ky,Ky,Ky,Ky,Ky,Ky,Ky,Ky,dK,Ky,Ky,Ky]
@[go_sem] abbrev dD (h:Bool) (r q:RN) (p e t:Int):Array ϗ:=#[β h,r.f.X,(hi (r.f.Y)),(lo (r.f.Y)),r.f.M,r.t.X,(hi (r.t.Y)),(lo (r.t.Y)),r.t.M,β r.b,q.f.X,(hi (q.f.Y)),(lo (q.f.Y)),q.f.M,q.t.X,(hi (q.t.Y)),(lo (q.t.Y)),q.t.M,β q.b,p,e,t]
theorem Fz {m d n:Int} (hm:0<=m)(hd:0<=d)(hn:0<=n)(h:kd m d n=1):m=0/\d=0/\n=0:=by unfold kd at h;(repeat' split at h)<;>omega
theorem FA {m d n:Int} (h:kd m d n=2):d=0/\m=n:=by unfold kd at h;(repeat' split at h)<;>omega
theorem xN {m d n:Int} (h:kd m d n=3):0<d/\n<m:=by unfold kd at h;(repeat' split at h)<;>omega
theorem FB {m d n:Int} (h:kd m d n=4):0<d/\m=0/\0<n:=by unfold kd at h;(repeat' split at h)<;>omega
def cV (m d n:Int):Prop:=kd m d n≠0/\(0<=m/\m<=Md)/\(0<=d/\d<=1048576)/\(0<=n/\n<=Md)
theorem cV.of {m d n:Int} (hm:0<=m)(hd:0<=d)(hn:0<=n)(h:kd m d n≠0):cV m d n:=by have:=ia h;exact⟨h,by omega,by omega,by omega⟩
def vk (x y:Int):Prop:=(0<=x/\x<Mc)/\(0<=y/\y<19807040628566084398385987584)
theorem gn {X Y M:Int} (h1:0<=Y/\Y<1267650600228229401496703205376)(h2:0<=M/\M<68719476736)(h3:aq X):LN.small ⟨X,Y,M⟩:=⟨⟨h1,h2⟩,h3⟩
theorem gY:LN.zero.small:=gn ρa ρa ρa
theorem lh {m d n:Int} (hc:cV m d n)(h:n<=m):0<=(m - n)*d/\(m - n)*d<=4503599626321920:=by obtain⟨_,hm,hd,hn⟩:=hc;refine⟨Int.mul_nonneg ρa hd.1,?_⟩;have:=Int.mul_le_mul (show m - n<=Md by omega) hd.2 hd.1 ρa;omega
theorem iq {m d n x y:Int} (hc:cV m d n)(hf:vk x y)(h:n<=m):bf (y+(m - n)*d)=y+(m - n)*d:=by have:=lh hc h;unfold vk at hf;exact gL ρz
theorem fG {m d n x y:Int} (hc:cV m d n)(hf:vk x y):(RN.ready m d n x y).small:=by
 have QT:=hc;obtain⟨_,hm,hd,hn⟩:=QT;have Qa:=hf;unfold vk at Qa;unfold RN.ready;split
 ·exact⟨gY,gn ρa ρa ρa⟩
 ·split
  ·rename_i h;have h3:=(xN h).2;have hp:=lh hc ρa;rw[iq hc hf ρa];exact⟨gn ρa ρa ρa,gn ρa ρa ρa⟩
  ·exact⟨gY,gn ρa ρa ρa⟩
theorem bj {m d n x y:Int} (hc:cV m d n)(hf:vk x y):(RN.start m d n x y).small:=by
 unfold RN.start;split
 ·obtain⟨_,hm,hd,hn⟩:=hc;unfold vk at hf;exact⟨gY,gn ρa ρa ρa⟩
 ·exact fG hc hf
theorem LN.at_lo {l:LN} {x:Int} (h:x<=l.X):l.at x=l.Y:=by unfold LN.at la;rw[ZP h]
theorem LN.at_from {l:LN} (h:l.small) {x:Int} (h1:l.X<=x)(h2:x<=Ma):l.at x=l.Y+l.M*(x - l.X):=jy h.1 h.2.1 h2 h1
theorem RN.at_t {r:RN} (h:r.b=false)(x:Int):r.at x=r.t.at x:=by unfold RN.at;simp[h]
theorem RN.at_le_t (r:RN)(x:Int):r.at x<=r.t.at x:=by unfold RN.at;(repeat' split)<;>omega
theorem RN.at_le_f (r:RN)(h:r.b=true)(x:Int):r.at x<=r.f.at x:=by unfold RN.at;simp only[h,if_true];split<;>omega
theorem pg {m d n x y t:Int} (hc:cV m d n)(hf:vk x y)(ht:Aw t):(RN.start m d n x y).at (x+t)=y+sv m d n t:=by
 have hs:=bj hc hf;have QT:=hc;obtain⟨hk,hm,hd,hn⟩:=QT;have Qa:=hf;unfold vk at Qa;unfold RN.start at hs ⊢;by_cases h4:kd m d n=4
 ·rw[ZP h4] at hs ⊢;obtain⟨h1,rfl,h3⟩:=FB h4;rw[RN.at_t rfl];unfold sv;split
  ·rw[LN.at_lo ρR];simp only[];omega
  ·rw[LN.at_from hs.2 ρR ρa];simp only[];rw[show x+t - (x+d)=t - d by omega];omega
 rw[ZI h4] at hs ⊢;unfold RN.ready at hs ⊢;by_cases h3:kd m d n=3
 ·rw[ZI ρa,ZP h3] at hs ⊢;have hp:=xN h3;have e1:=LN.at_from (x:=x+t) hs.1 ρR ρa;have e2:=LN.at_from (x:=x+t) hs.2 ρR ρa;simp only[iq hc hf (show n<=m by omega),show x+t - x=t by omega] at e1 e2;unfold RN.at;simp only[if_true,iq hc hf (show n<=m by omega)];rw[e1,e2,ph];have q:m*t=n*t+(m - n)*t:=by rw[Int.sub_mul];omega
  rcases Int.le_total t d with h|h
  ·have:=ZU h (show 0<=m - n by omega);rw[Int.min_eq_left h];split<;>omega
  ·have:=ZU h (show 0<=m - n by omega);rw[Int.min_eq_right h];split<;>omega
 ·have hlin:sv m d n t=n*t:=by
   have:kd m d n=1\/kd m d n=2:=by have:=eK m d n;omega
   rw[ph];rcases this with h|h
   ·obtain⟨rfl,rfl,rfl⟩:=Fz hm.1 hd.1 hn.1 h;simp
   ·obtain⟨rfl,rfl⟩:=FA h;simp
  rw[hlin];by_cases h2:kd m d n=2
  ·rw[ZP (.inl h2)] at hs ⊢;rw[RN.at_t rfl,LN.at_from hs.2 ρR ρa];simp only[show x+t - x=t by omega]
  ·rw[ZI ρa,ZI h3] at hs ⊢;obtain⟨rfl,rfl,rfl⟩:=Fz hm.1 hd.1 hn.1 (show kd m d n=1 by have:=eK m d n;omega);rw[RN.at_t rfl,LN.at_from hs.2 ρR ρa];simp
theorem iB {m d n x y:Int} (h:kd m d n≠4):RN.ready m d n x y=RN.start m d n x y:=by unfold RN.start;rw[ZI h]
theorem jE {m d n x y:Int} (h:kd m d n=4):RN.ready m d n x y=⟨LN.zero,⟨x,y,n⟩,false⟩:=by unfold RN.ready;rw[ZP (.inr h)]
theorem pf {m d n x y:Int} (h:kd m d n=4):RN.start m d n x y=⟨LN.zero,⟨x+d,y,n⟩,false⟩:=by unfold RN.start;rw[ZP h]
theorem LN.low_at {a b:LN} (ha:a.small)(hb:b.small)(hM:a.M=b.M) {x:Int} (h1:a.X<=x)(h2:b.X<=x)(hx:x<=Ma):(LN.low a b).at x=min (a.at x) (b.at x):=by
 obtain⟨Xa,Ya,M⟩:=a;obtain⟨Xb,Yb,M'⟩:=b;simp only[] at hM h1 h2;subst hM;have:=xS (x:=x) ha.1 hb.1 ha.2.1 hb.2.1 h1 h2 hx;unfold LN.low LN.lowB LN.at;simp only[] at this ⊢;rcases h:Go.Proofs.YtfdlemkplejdnaaGreat.lowB Xa Ya M Xb Yb M with _|_
 ·have:=this.2 h;rw[ZI ρp,Int.min_eq_left this]
 ·have:=this.1 h;rw[ZP rfl,Int.min_eq_right this]
theorem LN.low_small {a b:LN} (ha:a.small)(hb:b.small):(LN.low a b).small:=by unfold LN.low;split<;>assumption
theorem RN.meet_small {a b:RN} (ha:a.small)(hb:b.small):(RN.meet a b).small:=by
 refine⟨?_,LN.low_small ha.2 hb.2⟩;show (if a.b then LN.low a.f b.f else LN.zero).small;split
 ·exact LN.low_small ha.1 hb.1
 ·exact gY
def RN.alike (r s:RN):Prop:=r.b=s.b/\(r.b=true->r.f.M=s.f.M)/\r.t.M=s.t.M
def RN.begun (r:RN)(x:Int):Prop:=(r.b=true->r.f.X<=x)/\r.t.X<=x
theorem RN.meet_at {r s:RN} (hr:r.small)(hs:s.small)(h:r.alike s) {x:Int} (h1:r.begun x)(h2:s.begun x)(hx:x<=Ma):(RN.meet r s).at x=min (r.at x) (s.at x):=by
 have et:=LN.low_at hr.2 hs.2 h.2.2 h1.2 h2.2 hx;unfold RN.meet RN.at;simp only[];rw[et];rcases hb:r.b with _|_
 ·have f':s.b=false:=by rw[<- h.1];exact hb
  simp[f']
 ·have f':s.b=true:=by rw[<- h.1];exact hb
  have ef:=LN.low_at hr.1 hs.1 (h.2.1 hb) (h1.1 hb) (h2.1 f') hx;simp only[f',if_true];rw[ef];(repeat' split)<;>omega
def RN.main (r:RN):LN:=if r.b then r.f else r.t
theorem RN.at_le_main (r:RN)(x:Int):r.at x<=r.main.at x:=by
 unfold RN.main;split
 ·rename_i h;exact RN.at_le_f r h x
 ·exact RN.at_le_t r x
theorem bG (m d n x y x' y':Int):(RN.start m d n x y).alike (RN.start m d n x' y'):=by unfold RN.start RN.ready;(repeat' split)<;>exact⟨rfl,λ_=>rfl,rfl⟩
theorem qQ {m d n x y t:Int} (h:x<=t):(RN.ready m d n x y).begun t:=by
 unfold RN.ready;split
 ·exact⟨(λh=>(by cases h)),h⟩
 ·split
  ·exact⟨λ_=>h,h⟩
  ·exact⟨(λh=>(by cases h)),h⟩
theorem mz {m d n x y:Int}:(RN.start m d n x y).main=⟨if kd m d n=4 then x+d else x,y,(RN.start m d n x y).main.M⟩:=by
 unfold RN.start RN.ready;by_cases h4:kd m d n=4
 ·simp[h4,RN.main]
 ·by_cases h3:kd m d n=3
  ·simp[h3,RN.main]
  ·by_cases h2:kd m d n=2
   ·simp[h2,RN.main]
   ·simp[h2,h3,h4,RN.main]
theorem gU (m d n x y:Int):(RN.start m d n x y).main.X=if kd m d n=4 then x+d else x:=ZG LN.X (mz (m:=m) (d:=d) (n:=n) (x:=x) (y:=y))
theorem jI (m d n x y:Int):(RN.start m d n x y).main.Y=y:=ZG LN.Y (mz (m:=m) (d:=d) (n:=n) (x:=x) (y:=y))
theorem gT {m d n x y t:Int} (h:(RN.start m d n x y).main.X<=t):(RN.start m d n x y).begun t:=by
 by_cases h4:kd m d n=4
 ·rw[pf h4] at h ⊢;exact⟨(λh=>(by cases h)),h⟩
 ·rw[gU,ZI h4] at h;rw[<- iB h4];exact qQ h
abbrev GQ (l:LN):ϗ:=lv l.X l.Y l.M
abbrev bT (r:RN):ϗ:=φ #[ι υ r.f.X,ι υ (hi (r.f.Y)),ι υ (lo (r.f.Y)),ι υ r.f.M,ι υ r.t.X,ι υ (hi (r.t.Y)),ι υ (lo (r.t.Y)),ι υ r.t.M,β r.b]
theorem GH (a x b p:Int)(w:ϖ)(ha:aq a)(hb:aq b)(hx:x=a)(hp:a*b=p):
  CB 211 #[x,b] w (wv p):=by subst hx;exact gA x b p w ha hb hp
theorem pz:hi 0=0:=by decide
theorem I3:lo 0=0:=by decide
theorem uX (x y n:Int):Value.agg #[Ky,Ky,Ky,Ky,x,(hi y),(lo y),n,dK]=bT ⟨LN.zero,⟨x,y,n⟩,false⟩:=by simp only[bT,LN.zero,pz,I3]
theorem wy (m d n x y k:Int)(w:ϖ)(hm:aq m)(hd:aq d)(hn:aq n)(hk:kd m d n=k)(k2:(k==2)=true):
  CB 206 #[φ (aJ m d n),x,wv y] w (φ #[Ky,Ky,Ky,Ky,x,(hi (y)),(lo (y)),n,dK]):=by
 have Hk:=ag hk;clear hk;unfold CB;go_in;go_wp2_with fail;refine δq ?_;refine δB ?_;intro w1 C1 Y1 R1 g1 J3;have Rr:=θ3 C1.r Y1.r R1.r;go_wp2;exact Eb (w+1+1) #[Ky,Ky,Ky,Ky,x,(hi (y)),(lo (y)),n,dK] 236 rfl σ9
theorem tJ (m d n x y k:Int)(w:ϖ)(hm:aq m)(hd:aq d)(hn:aq n)(hk:kd m d n=k)(k2:(k==2)=false)(k4:(k==4)=true):
  CB 206 #[φ (aJ m d n),x,wv y] w (φ #[Ky,Ky,Ky,Ky,x,(hi (y)),(lo (y)),n,dK]):=by
 have Hk:=ag hk;clear hk;unfold CB;go_in;go_wp2_with fail;refine δq ?_;refine δB ?_;intro w1 C1 Y1 R1 g1 J3;have Rr:=θ3 C1.r Y1.r R1.r;go_wp2;exact Eb (w+1+1) #[Ky,Ky,Ky,Ky,x,(hi (y)),(lo (y)),n,dK] 236 rfl σ9
theorem ww (m d n x y k:Int)(w:ϖ)(hm:aq m)(hd:aq d)(hn:aq n)(hk:kd m d n=k)(k2:(k==2)=false)(k4:(k==4)=false)(k3:(k==3)=false):
  CB 206 #[φ (aJ m d n),x,wv y] w (φ #[Ky,Ky,Ky,Ky,x,(hi (y)),(lo (y)),Ky,dK]):=by
 have Hk:=ag hk;clear hk;unfold CB;go_in;go_wp2_with fail;refine δq ?_;refine δB ?_;intro w1 C1 Y1 R1 g1 J3;have Rr:=θ3 C1.r Y1.r R1.r;go_wp2;exact Eb (w+1+1) #[Ky,Ky,Ky,Ky,x,(hi (y)),(lo (y)),Ky,dK] 236 rfl σ9
theorem yD (m d n x y p s:Int)(o:Bool)(w:ϖ)(hm:aq m)(hd:aq d)(hn:aq n)(hy:ai y)(hk:kd m d n=3)(Pf:n<=m)(hp:(m - n)*d=p)(p1:ai p)(hs:bf (y+p)=s)(ho:decide (340282366920938463463374607431768211456<=y+p)=o):
  CB 206 #[φ (aJ m d n),x,wv y] w (φ #[x,(hi (y)),(lo (y)),m,x,(hi (s)),(lo (s)),n,fK]):=by
 have Hk:=ag hk;clear hk;have Hw:=ag (show IntKind.u64.wrap (m - n)=m - n from ZZ _ ⟨by omega,by omega⟩);have Hp:=ag hp;have Hs:=ag hs;have Ho:=ag ho;clear hp hs ho;unfold CB;go_in;go_wp2_with fail;refine(bQ m d n 3 _ hm.1 hd.1 hn.1 Hk.out).mono ?_;refine δB ?_;intro w1 C1 Y1 R1 g1 J3;replace cC:=C1.cell;replace fC:=C1.frozen;replace zC:=C1.size;replace cY:=Y1.cell;replace fY:=Y1.frozen;replace zY:=Y1.size;have Rr:=R1.r;go_upto_region 6 with (fail);go_cut [7,8] (λp7 p8 wx=>∃X:Nat,p7=X/\p8=β o/\Below w w wx/\ah wx w (aJ m d n) 41/\ah wx (w+1) (mG y) 232/\ah wx (w+1+1) nA 236/\ah wx X (mG s) 232);case first=>
  go_region_held3 (λv=>Bk v w (aJ m d n) 41/\Bk v (w+1) (mG y) 232/\Below w w v) (exact ρH)
   (first
    | (go_at_call 211;(with_reducible refine(GH (m - n) _ d p _ ρa hd τN Hp.out).mono ?_);refine bm ?_;intro w' f' JZ JY;(try have hX:=Xb f');(try simp only[World.size_alloc] at hX);(try have rX:=hX.r);have J':=R1.tr f';have rR:=J'.r)
    | (go_at_call 249;(with_reducible refine(CT y p s o _ hy p1 Hs.out Ho.out).mono ?_);refine bm ?_;intro w' f' JZ JY;(try have hX:=Xb f');(try simp only[World.size_alloc] at hX);(try have rX:=hX.r);have J':=R1.tr f';have rR:=J'.r))
  all_goals
   (try go_split_ands);go_wp2;go_meet;exact⟨_,rfl,rfl,ρE,ρB,ρB,ρB,ρB⟩
 case rest=>
  clear cC fC zC cY fY zY C1 Y1 R1;obtain⟨X,rfl,rfl,g2,C2,Y2,R2,X2⟩:=hcut;have cC:=C2.cell;have cY:=Y2.cell;have cX:=X2.cell;have Ss:=R2.r;have zX:=X2.size;have zC:=C2.size;have zY:=Y2.size;go_wp2;exact Eb (w+1+1) #[x,(hi (y)),(lo (y)),m,x,(hi (s)),(lo (s)),n,fK] 236 rfl σ9
theorem iS (m d n x y:Int)(r:RN)(w:ϖ)(hm:aq m)(hd:aq d)(hn:aq n)(hy:ai y)(hr:RN.ready m d n x y=r):
  CB 206 #[φ (aJ m d n),x,wv y] w (bT r):=by
 unfold RN.ready at hr;by_cases h24:kd m d n=2\/kd m d n=4
 ·rw[ZP h24] at hr;subst hr;rw[<- uX];by_cases h2:kd m d n=2
  ·exact wy m d n x y _ w hm hd hn rfl (by simp[h2])
  ·exact tJ m d n x y _ w hm hd hn rfl (by simp[h2]) ρJ
 ·rw[ZI h24] at hr;by_cases h3:kd m d n=3
  ·rw[ZP h3] at hr;subst hr;have hk:=ia (show kd m d n≠0 by omega);have hp:=(show 0<d/\n<m by unfold kd at h3;(repeat' split at h3)<;>omega);exact yD m d n x y _ _ _ w hm hd hn hy h3 ρa rfl (ix ρa ρa rfl) rfl rfl
  ·rw[ZI h3] at hr;subst hr;rw[<- uX];exact ww m d n x y _ w hm hd hn rfl ρJ ρJ ρJ
theorem zd (m d n x y k:Int)(r:RN)(w:ϖ)(hm:aq m)(hd:aq d)(hn:aq n)(hy:ai y)(hr:RN.ready m d n x y=r)(hk:kd m d n=k)(k4:(k==4)=false):
  CB 205 #[φ (aJ m d n),x,wv y] w (bT r):=by
 have Hr:=ag hr;have Hk:=ag hk;clear hr hk;unfold CB;go_in;go_wp2_with fail;refine(iS m d n x y r _ hm hd hn hy Hr.out).mono ?_;refine δh ?_;intro w1 JL C1;have R1:ah w1 (w+1+1) nA 236:=Zv JL;refine ηY ?_;intro g1 J3;clear JL;have Rr:=θ2 C1.r R1.r;go_wp2_with fail;refine δq ?_;rintro e w2 ⟨rfl,JR⟩;have C2:=C1.tr JR;have R2:=R1.tr JR;have Z2:ah w2 w1 (f8 r) 236:=Zv JR;refine η6 ?_;intro g2 KN;clear JR;replace Rr:=θ3 C2.r R2.r Z2.r;go_wp2;exact Eb (w+1+1) (f8 r) 236 rfl (λ_ cv=>(by simp[results,Tryz.results205,go_sem,cv]))
theorem wL (m d n x y k:Int)(r:RN)(w:ϖ)(hm:aq m)(hd:aq d)(hn:aq n)(hy:ai y)(hr:RN.ready m d n x y=r)(hk:kd m d n=k)(k4:(k==4)=true)(hX:0<=r.t.X+d/\r.t.X+d<=Ma):
  CB 205 #[φ (aJ m d n),x,wv y] w (bT ⟨r.f,⟨r.t.X+d,r.t.Y,r.t.M⟩,r.b⟩):=by
 have Hr:=ag hr;have Hk:=ag hk;clear hr hk;have hwr:IntKind.u64.wrap (r.t.X+d)=r.t.X+d:=ZZ _ hX;unfold CB;go_in;go_wp2_with fail;refine(iS m d n x y r _ hm hd hn hy Hr.out).mono ?_;refine δh ?_;intro w1 JL C1;have R1:ah w1 (w+1+1) nA 236:=Zv JL;refine ηY ?_;intro g1 J3;clear JL;have Rr:=θ2 C1.r R1.r;go_wp2_with fail;refine δq ?_;rintro e w2 ⟨rfl,JR⟩;have C2:=C1.tr JR;have R2:=R1.tr JR;have Z2:ah w2 w1 (f8 r) 236:=Zv JR;refine η6 ?_;intro g2 KN;clear JR;replace Rr:=θ3 C2.r R2.r Z2.r;go_wp2;exact Eb (w+1+1) #[r.f.X,(hi (r.f.Y)),(lo (r.f.Y)),r.f.M,ι υ (r.t.X+d),(hi (r.t.Y)),(lo (r.t.Y)),r.t.M,β r.b] 236 rfl (λ_ cv=>(by simp[results,Tryz.results205,go_sem,cv]))
theorem dZ (m d n x y:Int)(r:RN)(w:ϖ)(hm:aq m)(hd:aq d)(hn:aq n)(hx:0<=x/\x<=Mc)(hy:ai y)(hr:RN.start m d n x y=r):
  CB 205 #[φ (aJ m d n),x,wv y] w (bT r):=by
 unfold RN.start at hr;by_cases h4:kd m d n=4
 ·rw[ZP h4] at hr;have ME:=(ia (show kd m d n≠0 by omega)).2.2;subst hr;have e:RN.ready m d n x y=⟨LN.zero,⟨x,y,n⟩,false⟩:=by unfold RN.ready;rw[ZP (.inr h4)]
  exact wL m d n x y _ _ w hm hd hn hy e rfl (by simp[h4]) ⟨by simp only[];omega,by simp only[];omega⟩
 ·rw[ZI h4] at hr;exact zd m d n x y _ r w hm hd hn hy hr rfl (by simp[h4])
theorem DE (a b c:LN)(w:ϖ)(ha:a.ok)(hb:b.ok)(hc:LN.low a b=c):
  CB 248 #[GQ a,GQ b] w (GQ c):=by
 refine Bf a.X a.Y a.M b.X b.Y b.M c.X c.Y c.M w ha.1 ha.2.1 ha.2.2 hb.1 hb.2.1 hb.2.2 ?_;subst hc;unfold LN.low LN.lowB;rcases h:Go.Proofs.YtfdlemkplejdnaaGreat.lowB a.X a.Y a.M b.X b.Y b.M with _|_
 ·exact .inr ⟨rfl,by simp⟩
 ·exact .inl ⟨rfl,by simp⟩
theorem tw (a b:RN)(f t:LN)(w:ϖ)(ha:RN.ok a)(hb:RN.ok b)(hbb:a.b=false)(ht:LN.low a.t b.t=t):
  CB 204 #[bT a,bT b] w (φ #[Ky,Ky,Ky,Ky,t.X,(hi (t.Y)),(lo (t.Y)),t.M,dK]):=by
 have Ht:=ag ht;clear ht;have haf:a.f.ok:=ha.1;have Mq:a.t.ok:=ha.2;have hbf:b.f.ok:=hb.1;have hbt:b.t.ok:=hb.2;rw[bT,hbb];clear hbb;unfold CB;go_in;go_upto_region 1 with (fail);refine aH (λv=>Below w w v/\ah v w #[a.f.X,(hi (a.f.Y)),(lo (a.f.Y)),a.f.M,a.t.X,(hi (a.t.Y)),(lo (a.t.Y)),a.t.M,dK] 236/\ah v (w+1) (f8 b) 236/\ah v (w+1+1) nA 236) ⟨ρE,ρB,ρB,ρB⟩ ?_;rintro w0 ⟨g0,A0,B0,R0⟩;have Ra:=g0.size;replace cA:=A0.cell;replace fA:=A0.frozen;replace zA:=A0.size;replace cB:=B0.cell;replace fB:=B0.frozen;replace zB:=B0.size;have Rr:=R0.r;go_cut [5] (λp5 wx=>∃X:Nat,p5=X/\Below w w wx/\ah wx w #[a.f.X,(hi (a.f.Y)),(lo (a.f.Y)),a.f.M,a.t.X,(hi (a.t.Y)),(lo (a.t.Y)),a.t.M,dK] 236/\ah wx (w+1) (f8 b) 236/\ah wx (w+1+1) nA 236/\ah wx X #[Ky,Ky,Ky,Ky,t.X,(hi (t.Y)),(lo (t.Y)),t.M,dK] 236/\w.heap.size+1+1<X);case first=>
  go_region_held3 (λv=>Bk v w #[a.f.X,(hi (a.f.Y)),(lo (a.f.Y)),a.f.M,a.t.X,(hi (a.t.Y)),(lo (a.t.Y)),a.t.M,dK] 236/\Bk v (w+1) (f8 b) 236/\Below w w v) (exact ρH)
   (first
    | (go_at_call 248;(with_reducible refine(DE a.t b.t t _ Mq hbt Ht.out).mono ?_);refine bm ?_;intro w' f' JZ JY;(try have hX:=Xb f');(try simp only[World.size_alloc] at hX);(try have rX:=hX.r);have J':=R0.tr f';have rR:=J'.r))
  all_goals
   (try go_split_ands);go_wp2;go_meet;exact⟨_,rfl,ρE,ρB,ρB,ρB,ρB,by first|omega|(simp;omega)⟩
 case rest=>
  clear cA fA zA cB fB zB A0 B0 R0;obtain⟨X,rfl,g2,A2,B2,R2,X2,zX0⟩:=hcut;have cA:=A2.cell;have zA:=A2.size;have cB:=B2.cell;have zB:=B2.size;have fX:=X2.frozen;have cX:=X2.cell;have Ss:=R2.r;have zX:=X2.size;go_wp2;exact Eb (w+1+1) #[Ky,Ky,Ky,Ky,t.X,(hi (t.Y)),(lo (t.Y)),t.M,dK] 236 rfl (λ_ cv=>(by simp[results,Tryz.results204,go_sem,cv]))
theorem vZ (a b:RN)(f t:LN)(w:ϖ)(ha:RN.ok a)(hb:RN.ok b)(hbb:a.b=true)(ht:LN.low a.t b.t=t)(hf:LN.low a.f b.f=f):
  CB 204 #[bT a,bT b] w (φ #[f.X,(hi (f.Y)),(lo (f.Y)),f.M,t.X,(hi (t.Y)),(lo (t.Y)),t.M,fK]):=by
 have Ht:=ag ht;clear ht;have Hf:=ag hf;clear hf;have haf:a.f.ok:=ha.1;have Mq:a.t.ok:=ha.2;have hbf:b.f.ok:=hb.1;have hbt:b.t.ok:=hb.2;rw[bT,hbb];clear hbb;unfold CB;go_in;go_upto_region 1 with (fail);refine aH (λv=>Below w w v/\ah v w #[a.f.X,(hi (a.f.Y)),(lo (a.f.Y)),a.f.M,a.t.X,(hi (a.t.Y)),(lo (a.t.Y)),a.t.M,fK] 236/\ah v (w+1) (f8 b) 236/\ah v (w+1+1) nA 236) ⟨ρE,ρB,ρB,ρB⟩ ?_;rintro w0 ⟨g0,A0,B0,R0⟩;have Ra:=g0.size;replace cA:=A0.cell;replace fA:=A0.frozen;replace zA:=A0.size;replace cB:=B0.cell;replace fB:=B0.frozen;replace zB:=B0.size;have Rr:=R0.r;go_cut [5] (λp5 wx=>∃X:Nat,p5=X/\Below w w wx/\ah wx w #[a.f.X,(hi (a.f.Y)),(lo (a.f.Y)),a.f.M,a.t.X,(hi (a.t.Y)),(lo (a.t.Y)),a.t.M,fK] 236/\ah wx (w+1) (f8 b) 236/\ah wx (w+1+1) nA 236/\ah wx X #[Ky,Ky,Ky,Ky,t.X,(hi (t.Y)),(lo (t.Y)),t.M,fK] 236/\w.heap.size+1+1<X);case first=>
  go_region_held3 (λv=>Bk v w #[a.f.X,(hi (a.f.Y)),(lo (a.f.Y)),a.f.M,a.t.X,(hi (a.t.Y)),(lo (a.t.Y)),a.t.M,fK] 236/\Bk v (w+1) (f8 b) 236/\Below w w v) (exact ρH)
   (first
    | (go_at_call 248;(with_reducible refine(DE a.t b.t t _ Mq hbt Ht.out).mono ?_);refine bm ?_;intro w' f' JZ JY;(try have hX:=Xb f');(try simp only[World.size_alloc] at hX);(try have rX:=hX.r);have J':=R0.tr f';have rR:=J'.r))
  all_goals
   (try go_split_ands);go_wp2;go_meet;exact⟨_,rfl,ρE,ρB,ρB,ρB,ρB,by first|omega|(simp;omega)⟩
 case rest=>
  clear cA fA zA cB fB zB A0 B0 R0;obtain⟨X,rfl,g2,A2,B2,R2,X2,zX0⟩:=hcut;have cA:=A2.cell;have zA:=A2.size;have cB:=B2.cell;have zB:=B2.size;have fX:=X2.frozen;have cX:=X2.cell;have Ss:=R2.r;have zX:=X2.size;go_wp2_with fail;refine(DE a.f b.f f _ haf hbf Hf.out).mono ?_;rintro e w3 ⟨rfl,KJ⟩;have R3:ah w3 (w+1+1) nA 236:=Zv KJ;have X3:ah w3 (X) #[Ky,Ky,Ky,Ky,t.X,(hi (t.Y)),(lo (t.Y)),t.M,fK] 236:=Zv KJ;have g3:=Tg w KJ;have MU:=KJ.size;(try simp at MU);clear KJ;clear Ss;replace Rr:=R3.r;replace cX:=X3.cell;replace fX:=X3.frozen;replace zX:=X3.size;go_upto_region 4 with (fail);refine aH (λv=>Below w w v/\ah v (w+1+1) nA 236/\ah v (X) #[f.X,(hi (f.Y)),(lo (f.Y)),f.M,t.X,(hi (t.Y)),(lo (t.Y)),t.M,fK] 236) ⟨ρE,ρB,ρB⟩ ?_;rintro w4 ⟨g4,R4,X4⟩;have SI:=g4.size;replace Rr:=R4.r;replace cX:=X4.cell;replace fX:=X4.frozen;replace zX:=X4.size;go_wp2;exact Eb (w+1+1) #[f.X,(hi (f.Y)),(lo (f.Y)),f.M,t.X,(hi (t.Y)),(lo (t.Y)),t.M,fK] 236 rfl (λ_ cv=>(by simp[results,Tryz.results204,go_sem,cv]))
theorem lV (a b r:RN)(w:ϖ)(ha:a.ok)(hb:b.ok)(hr:RN.meet a b=r):
  CB 204 #[bT a,bT b] w (bT r):=by
 subst hr;rcases h:a.b with _|_
 ·have:=tw a b LN.zero _ w ha hb h rfl;refine this.mono λe w' ⟨h1,h2⟩=>⟨h1.trans (kT ?_),h2⟩;simp only[bT,RN.meet,h,LN.zero,pz,I3,Bool.false_eq_true,if_false]
 ·have:=vZ a b _ _ w ha hb h rfl rfl;refine this.mono λe w' ⟨h1,h2⟩=>⟨h1.trans (kT ?_),h2⟩;simp only[bT,RN.meet,h,if_true]
theorem vu (r:RN)(w:ϖ)(hb:r.b=false):
  CB 260 #[bT r] w (φ #[r.t.X,(hi (r.t.Y)),(lo (r.t.Y)),r.t.M,r.t.X,(hi (r.t.Y)),(lo (r.t.Y)),r.t.M]):=by
 rw[bT,hb];clear hb;unfold CB;go_in;go_wp2;exact Eb (w+1) #[r.t.X,(hi (r.t.Y)),(lo (r.t.Y)),r.t.M,r.t.X,(hi (r.t.Y)),(lo (r.t.Y)),r.t.M] 375 rfl (λ_ cv=>(by simp[results,Tryz.results260,go_sem,cv]))
theorem xp (r:RN)(w:ϖ)(hb:r.b=true):
  CB 260 #[bT r] w (φ #[r.f.X,(hi (r.f.Y)),(lo (r.f.Y)),r.f.M,r.t.X,(hi (r.t.Y)),(lo (r.t.Y)),r.t.M]):=by
 rw[bT,hb];clear hb;unfold CB;go_in;go_wp2;exact Eb (w+1) #[r.f.X,(hi (r.f.Y)),(lo (r.f.Y)),r.f.M,r.t.X,(hi (r.t.Y)),(lo (r.t.Y)),r.t.M] 375 rfl (λ_ cv=>(by simp[results,Tryz.results260,go_sem,cv]))
theorem Ay (r:RN)(g:LN)(w:ϖ)(hg:(if r.b=true then r.f else r.t)=g):
  CB 260 #[bT r] w (φ #[g.X,(hi (g.Y)),(lo (g.Y)),g.M,r.t.X,(hi (r.t.Y)),(lo (r.t.Y)),r.t.M]):=by
 subst hg;rcases h:r.b with _|_
 ·simp only[Bool.false_eq_true,if_false];exact vu r w h
 ·simp only[if_true];exact xp r w h
theorem uL (l:LN)(W s:Int)(w:ϖ)(h:l.ok)(hW:ai W)(hs:l.reach W=s):
  CB 261 #[GQ l,wv W] w s:=DJ l.X l.Y l.M W s w h.1 h.2.1 h.2.2 hW hs
theorem wE (r:RN)(g:LN)(W p q s:Int)(w:ϖ)(hg:(if r.b=true then r.f else r.t)=g)(og:g.ok)(ot:r.t.ok)(hW:ai W)(hp:g.reach W=p)(hq:r.t.reach W=q)(p0:0<=p)(q0:0<=q)(hs:s=max p q):
  CB 218 #[bT r,wv W] w s:=by
 have Hg:=ag hg;have Hp:=ag hp;have Hq:=ag hq;have Hs:=ag hs;clear hg hp hq hs;have ix0:∀v,(Instr.index 375 (φ #[g.X,(hi (g.Y)),(lo (g.Y)),g.M,r.t.X,(hi (r.t.Y)),(lo (r.t.Y)),r.t.M]) Kz).run Ψ v=.ok (φ #[g.X,(hi (g.Y)),(lo (g.Y)),g.M]) v:=λ_=>by kernel_rfl
 have ix1:∀v,(Instr.index 375 (φ #[g.X,(hi (g.Y)),(lo (g.Y)),g.M,r.t.X,(hi (r.t.Y)),(lo (r.t.Y)),r.t.M]) Ko).run Ψ v=.ok (φ #[r.t.X,(hi (r.t.Y)),(lo (r.t.Y)),r.t.M]) v:=λ_=>by kernel_rfl
 unfold CB;go_in;go_wp2_with fail;refine(Ay r g _ Hg.out).mono ?_;rintro e w1 ⟨rfl,JL⟩;have W1:ah w1 (w+1) (mG W) 232:=Zv JL;refine ηY ?_;intro g1 J3;clear JL;have Rr:=W1.r;go_wp2;refine wp_loop_rounds 3 ?_;rw[cU];go_wp2_with fail;refine(uL g W p _ og hW Hp.out).mono ?_;rintro e w2 ⟨rfl,JR⟩;have W2:=W1.tr JR;refine η6 ?_;intro g2 KN;clear JR;replace Rr:=W2.r;go_wp2
 all_goals
  rw[cU];go_wp2_with fail;refine(uL r.t W q _ ot hW Hq.out).mono ?_;rintro e w3 ⟨rfl,KJ⟩;have W3:=W2.tr KJ;have g3:=Tg w KJ;have MU:=KJ.size;(try simp at MU);clear KJ;replace Rr:=W3.r;go_wp2
  all_goals
   rw[cU];go_wp2;go_ret;exact⟨dS (by have:=Hs.out;omega),ρE⟩
theorem iC (r:RN)(W s:Int)(w:ϖ)(h:r.ok)(hW:ai W)(hs:r.reach W=s):
  CB 218 #[bT r,wv W] w s:=by
 obtain⟨g,hg⟩:=Nq (if r.b=true then r.f else r.t);have og:g.ok:=by rw[<- hg];split;exact h.1;exact h.2
 refine wE r g W _ _ s w hg og h.2 hW rfl rfl (LN.reach_rng og W).1 (LN.reach_rng h.2 W).1 ?_;rw[<- hs,<- hg];unfold RN.reach;by_cases hb:r.b=true
 ·rw[ZP hb,ZP hb]
 ·rw[ZI hb,ZI hb];omega
end Go.Proofs.YtfdlemkplejdnaaGreat
