/- WholeDelay, part 4. Conditions: none. -/
import Derived.Test.YtfdlemkplejdnaaGreatA2
namespace Go.Proofs.YtfdlemkplejdnaaGreat
open Go.RowKit Go.Sort
open Value renaming int->ι,pointer->ψ,slice->ζ,tuple->χ,agg->φ,map->μ,bool->β
open IntKind renaming u64->υ,i64->ε,u16->ω
open Ending renaming returned->ϰ
open Go.Proofs.Tryz renaming prog->Ψ,underlying3->Θ,underlying147->Δ,underlying152->Γ,underlying202->Φ,underlying39->Ξ,underlying207->Ω
open Go renaming World->ϖ,Value->ϗ
set_option linter.unusedVariables false
set_option linter.unusedSimpArgs false
set_option maxHeartbeats 8000000
set_option maxRecDepth 100000
theorem BF (v:Int)(w:ϖ)(h0:0<=v)(h1:v<=Ma):
  CB 60 #[v] w (nv v):=by
 have e:nv v=φ #[ι υ (v % Me),ι υ (v / Me),Ky,Ky]:=(iX ρa ρa ρa ρa ρa).symm;rw[e];unfold CB;go_in;go_wp2;go_returns;exact⟨rfl,ρE⟩
theorem Iv (n:Int)(w:ϖ)(hn:ai n):Calls Ψ 63 (mG n) w λe w'=>e=ϰ (nv n)/\Below w w w':=by
 have r1:=fh n;have r2:=dR n;have e:nv n=φ #[ι υ (lo n % Me),ι υ (lo n / Me),ι υ (hi n % Me),ι υ (hi n / Me)]:=(iX ρa ρa ρa ρa (by unfold ai at hn;unfold hi lo;omega)).symm;rw[e];go_in;go_wp2;go_returns;exact⟨rfl,ρE⟩
theorem FS (n:Int)(w:ϖ):
  CB 61 #[nv n] w (hi n):=by
 have r0:=dN n;have r1:=dO n;have r2:=dP n;have r3:=dQ n;unfold CB;go_in;go_wp2;go_returns;exact⟨dS (by unfold jg ij hi;omega),ρE⟩
theorem Io (n:Int)(w:ϖ):
  CB 62 #[nv n] w (lo n):=by
 have r0:=dN n;have r1:=dO n;have r2:=dP n;have r3:=dQ n;unfold CB;go_in;go_wp2;go_returns;exact⟨dS (by unfold bV aX lo;omega),ρE⟩
theorem Ik (a b:Int)(w:ϖ)(ha:ai a)(hb:ai b):
  CB 94 #[nv a,nv b] w (χ #[nv (bf (a+b)),ι υ ((a+b) / 340282366920938463463374607431768211456)]):=by
 have r0:=dN a;have r1:=dO a;have r2:=dP a;have r3:=dQ a;have s0:=dN b;have s1:=dO b;have s2:=dP b;have s3:=dQ b;unfold CB;go_in;go_wp2;refine wp_loop_rounds 5 ?_
 iterate 4
  rw[cU];go_wp2;go_quiet (fail);go_wp2
 rw[cU];go_wp2;go_returns;have da:=EY ha;have db:=EY hb;refine⟨Ga (iX ρa ρa ρa ρa ?_) ?_,ρE⟩
 ·unfold bf;omega
 ·omega
theorem F3 (a b:Int)(w:ϖ)(ha:ai a)(hb:ai b):
  CB 59 #[nv a,nv b] w (nv (bf (a+b))):=by
 unfold CB;go_in;go_wp2_with fail;refine(Ik a b _ ha hb).mono ?_;rintro e w1 ⟨rfl,JL⟩;have J3:=JL.size;(try simp at J3);obtain⟨Ud,hf1⟩:=Fi JL
 try have z1:=Nat.lt_of_succ_le J3
 have k1:=Tg w JL;have g1:=k1;clear JL k1;go_wp2;refine ZO (v:=nv (bf (a+b))) (by simp[results,Tryz.results59,go_sem,Ud,z1]) rfl ⟨rfl,ρE⟩
theorem Ea (a b:Int)(w:ϖ)(ha:ai a)(hb:ai b):
  CB 39 #[nv a,nv b] w (nv (bf (a - b))):=by
 have r0:=dN a;have r1:=dO a;have r2:=dP a;have r3:=dQ a;have s0:=dN b;have s1:=dO b;have s2:=dP b;have s3:=dQ b;unfold CB;go_in;go_wp2;refine wp_loop_rounds 5 ?_
 iterate 4
  rw[cU];go_wp2;go_quiet (fail);go_wp2
 rw[cU];go_wp2;go_returns;have da:=EY ha;have db:=EY hb;refine⟨kT (iX ρa ρa ρa ρa ?_),ρE⟩;unfold bf;omega
theorem yw (a b:Int)(w:ϖ)(ha:ai a)(hb:ai b):
  CB 23 #[nv a,nv b] w (β (decide (a<b))):=by
 have r0:=dN a;have r1:=dO a;have r2:=dP a;have r3:=dQ a;have s0:=dN b;have s1:=dO b;have s2:=dP b;have s3:=dQ b;have da:=ag (EY ha);have db:=ag (EY hb);unfold CB;go_in;go_wp2;refine wp_loop_rounds 5 ?_;rw[cU];go_wp2;go_quiet (fail);go_wp2
 ·exact ξY
 rw[cU];go_wp2;go_quiet (fail);go_wp2
 ·exact ξY
 rw[cU];go_wp2;go_quiet (fail);go_wp2
 ·exact ξY
 rw[cU];go_wp2;go_quiet (fail);go_wp2
 ·exact ξY
 rw[cU];go_wp2;go_ret;have da':=da.out;have db':=db.out;exact⟨Gc (by symm;rw[decide_eq_false_iff_not];simp at*;omega),ρE⟩
theorem fq {va vb:ϗ} {a b c:Int} (h:va=nv a)(h':vb=nv b)(w:ϖ)(ha:ai a)(hb:ai b)(hs:a+b=c)(hc:ai c):
  CB 59 #[va,vb] w (nv c):=by
 subst h h' hs;have:=F3 a b w ha hb;rw[gL hc] at this;exact this
theorem Ip (x y:Int)(w:ϖ)(hx:0<=x)(Tt:x<=Ma)(hy:0<=y)(hy':y<=Ma):
  CB 38 #[x,y] w (nv (x*y)):=by
 have r0:=dN x;have r1:=dO x;have r2:=dP x;have r3:=dQ x;have s0:=dN y;have s1:=dO y;have s2:=dP y;have s3:=dQ y;have p1:=fF _ _ r0 s0;have p2:=fF _ _ r0 s1;have p3:=fF _ _ r1 s0;have p4:=fF _ _ r1 s1;have p0:=kg x y hx Tt hy hy';have hp:aX x*aX y+aX x*bV y*Me+bV x*aX y*Me+bV x*bV y*Mf=x*y:=by
  have e1:bV x=x / Me:=by unfold bV;omega
  have e2:bV y=y / Me:=by unfold bV;omega
  rw[nk x y,e1,e2];unfold aX;omega
 have Hp:=ag hp;clear hp;unfold CB;go_in;go_wp2_with fail;refine(BF x _ hx Tt).mono ?_;rintro e w1 ⟨rfl,JL⟩;have A1:ah w1 w f9 70:=Zv JL;refine ηY ?_;intro g1 J3;clear JL;have rA:=A1.r;go_wp2_with fail;refine(BF y _ hy hy').mono ?_;rintro e w2 ⟨rfl,JR⟩;have A2:=A1.tr JR;have B2:ah w2 w1 (bC x) 70:=Zv JR;refine η6 ?_;intro g2 KN;clear JR rA;have rA:=A2.r;have Rr:=B2.r;have l1:w.heap.size<w1:=ρa;have l2:w1.heap.size<w2:=ρa;go_wp2;refine wp_loop_rounds 3 ?_;rw[cU];go_wp2;refine wp_loop_rounds 3 ?_;refine bX (λv=>Below w w v/\ah v w f9 70/\ah v w1 (bC x) 70/\ah v w2 (bC y) 70/\ah v (w2+1) f9 70) ⟨ρE,ρB,ρB,ρB,ρB⟩ ?_;clear rA;rintro w3 ⟨g3,A3,B3,C3,D3⟩;have rA:=A3.r;have Ss:=θ3 B3.r C3.r D3.r;rw[cU];go_wp2;go_quiet (fail);go_wp2_with fail;refine(fq (a:=0) (b:=aX x*aX y) (c:=aX x*aX y) (iX ρa ρa ρa ρa ρa) (iX ρa ρa ρa ρa ρa) _ ρz ρz ρa ρz).mono ?_;rintro e u3 ⟨rfl,KJ⟩;have A3':ah u3 w f9 70:=Zv KJ;have B3':ah u3 w1 (bC x) 70:=Zv KJ;have C3':ah u3 w2 (bC y) 70:=Zv KJ;have D3':ah u3 (w2+1) f9 70:=Zv KJ;have g3':=Tg w KJ;have hz3':=KJ.size;(try simp at hz3');clear KJ rA;have rA:=A3'.r;replace Ss:=θ3 B3'.r C3'.r D3'.r;go_wp2;refine bX (λv=>Below w w v/\ah v w f9 70/\ah v w1 (bC x) 70/\ah v w2 (bC y) 70/\ah v (w2+1) (bC (aX x*aX y)) 70) ⟨ρE,ρB,ρB,ρB,ρB⟩ ?_;clear rA;rintro w4 ⟨g4,A4,B4,C4,D4⟩;have rA:=A4.r;replace Ss:=θ3 B4.r C4.r D4.r;rw[cU];go_wp2;go_quiet (fail);go_wp2_with fail;refine(fq (a:=aX x*aX y) (b:=aX x*bV y*Me) (c:=aX x*aX y+aX x*bV y*Me) rfl (iX ρa ρa ρa ρa ρa) _ ρz ρz ρa ρz).mono ?_;rintro e u4 ⟨rfl,MO⟩;have A4':ah u4 w f9 70:=Zv MO;have B4':ah u4 w1 (bC x) 70:=Zv MO;have C4':ah u4 w2 (bC y) 70:=Zv MO;have D4':ah u4 (w2+1) (bC (aX x*aX y)) 70:=Zv MO;have g4':=Tg w MO;have hz4':=MO.size;(try simp at hz4');clear MO rA;have rA:=A4'.r;replace Ss:=θ3 B4'.r C4'.r D4'.r;go_wp2;rw[cU];go_wp2;rw[cU];go_wp2;refine wp_loop_rounds 3 ?_;refine bX (λv=>Below w w v/\ah v w f9 70/\ah v w1 (bC x) 70/\ah v w2 (bC y) 70/\ah v (w2+1) (bC (aX x*aX y+aX x*bV y*Me)) 70) ⟨ρE,ρB,ρB,ρB,ρB⟩ ?_;clear rA;rintro w5 ⟨g5,A5,B5,C5,D5⟩;have rA:=A5.r;replace Ss:=θ3 B5.r C5.r D5.r;rw[cU];go_wp2;go_quiet (fail);go_wp2_with fail;refine(fq (a:=aX x*aX y+aX x*bV y*Me) (b:=bV x*aX y*Me) (c:=aX x*aX y+aX x*bV y*Me+bV x*aX y*Me) rfl (iX ρa ρa ρa ρa ρa) _ ρz ρz ρa ρz).mono ?_;rintro e u5 ⟨rfl,KD⟩;have A5':ah u5 w f9 70:=Zv KD;have B5':ah u5 w1 (bC x) 70:=Zv KD;have C5':ah u5 w2 (bC y) 70:=Zv KD;have D5':ah u5 (w2+1) (bC (aX x*aX y+aX x*bV y*Me)) 70:=Zv KD;have g5':=Tg w KD;have hz5':=KD.size;(try simp at hz5');clear KD rA;have rA:=A5'.r;replace Ss:=θ3 B5'.r C5'.r D5'.r;go_wp2;refine bX (λv=>Below w w v/\ah v w f9 70/\ah v w1 (bC x) 70/\ah v w2 (bC y) 70/\ah v (w2+1) (bC (aX x*aX y+aX x*bV y*Me+bV x*aX y*Me)) 70) ⟨ρE,ρB,ρB,ρB,ρB⟩ ?_;clear rA;rintro w6 ⟨g6,A6,B6,C6,D6⟩;have rA:=A6.r;replace Ss:=θ3 B6.r C6.r D6.r;rw[cU];go_wp2;go_quiet (fail);go_wp2_with fail;refine(fq (a:=aX x*aX y+aX x*bV y*Me+bV x*aX y*Me) (b:=bV x*bV y*Mf) (c:=x*y) rfl (iX ρa ρa ρa ρa ρa) _ ρz ρz Hp.out ρz).mono ?_;rintro e u6 ⟨rfl,Qs⟩;have A6':ah u6 w f9 70:=Zv Qs;have B6':ah u6 w1 (bC x) 70:=Zv Qs;have C6':ah u6 w2 (bC y) 70:=Zv Qs;have D6':ah u6 (w2+1) (bC (aX x*aX y+aX x*bV y*Me+bV x*aX y*Me)) 70:=Zv Qs;have g6':=Tg w Qs;have hz6':=Qs.size;(try simp at hz6');clear Qs rA;have rA:=A6'.r;replace Ss:=θ3 B6'.r C6'.r D6'.r;go_wp2;rw[cU];go_wp2;rw[cU];go_wp2;refine ZO (v:=nv (x*y)) (by simp[results,Tryz.results38,go_sem,rA.1]) rfl ⟨rfl,ρE⟩
theorem tH (a b c:Int)(w:ϖ)(ha:ai a)(hb:0<=b/\b<=1)(hc:a+a+b=c)(Kc:ai c):
  CB 92 #[nv a,b] w (nv c):=by
 have h2:ai (a+a):=by unfold ai at*;omega
 unfold CB;go_in;go_wp2_with fail;refine(fq (a:=a) (b:=a) (c:=a+a) rfl rfl _ ha ha rfl h2).mono ?_;rintro e w1 ⟨rfl,JL⟩;have R1:ah w1 (w+1) f9 70:=Zv JL;refine ηY ?_;intro g1 J3;clear JL;replace rR:=R1.r;go_wp2_with fail;refine(BF b _ ρa ρa).mono ?_;rintro e w2 ⟨rfl,JR⟩;have R2:=R1.tr JR;refine η6 ?_;intro g2 KN;clear JR;replace rR:=R2.r;go_wp2_with fail;refine(fq (a:=a+a) (b:=b) (c:=c) rfl rfl _ h2 ρz hc Kc).mono ?_;rintro e w3 ⟨rfl,KJ⟩;have R3:=R2.tr KJ;have g3:=Tg w KJ;have MU:=KJ.size;(try simp at MU);clear KJ;replace rR:=R3.r;go_wp2;refine ZO (v:=nv c) (by simp[results,Tryz.results92,go_sem,rR.1]) rfl ⟨rfl,ρE⟩
theorem FL (a:Int)(i:Nat)(w:ϖ)(h0:0<=i)(h1:i<=31):
  CB 93 #[nv a,ι ε i] w (ι υ (aX a / 2 ^ i % 2)):=by
 have r0:=dN a;have hidx:((i:Nat):Int) / 32=0:=ρa;have hmod:((i:Nat):Int) % 32=(i:Int):=ρa;unfold CB;go_in;go_wp2;go_loop [5,12] (λv c=>∃k:Nat,k<=i/\c=ι ε k/\v=ι υ (aX a / 2 ^ k)) (λ_ c=>i - (intOf c).toNat);case atStart=>exact ηT
 case round=>
  obtain⟨k,hk,rfl,rfl⟩:=hrel;have hr:0<=aX a / 2 ^ k/\aX a / 2 ^ k<=Md:=ξA
  have hs:=ag (show aX a / 2 ^ (k+1)=aX a / 2 ^ k / 2 by rw[Int.pow_succ,Int.ediv_ediv_of_nonneg τf]);by_cases JM:k<i
  ·go_wp2;go_round;case rel=>exact⟨k+1,by omega,by go_num,by rw[hs.out]⟩
   case measure=>simp[intOf];omega
  ·obtain rfl:k=i:=by omega
   go_wp2;go_ret;exact⟨rfl,ρE⟩
theorem FM (a:Int)(i:Nat)(w:ϖ)(h0:32<=i)(h1:i<=63):
  CB 93 #[nv a,ι ε i] w (ι υ (bV a / 2 ^ (i - 32) % 2)):=by
 have r0:=dO a;have hidx:((i:Nat):Int) / 32=1:=ρa;obtain⟨m,hm⟩:∃m:Nat,m=(i - 32):=⟨_,rfl⟩;have hmod:((i:Nat):Int) % 32=(m:Int):=ρa;have hb:0<=(i:Int)/\(i:Int)<=127:=ρa;rw[<- hm];have Xg:m<=31:=ρa;clear hm h0 h1;unfold CB;go_in;go_wp2;go_loop [5,12] (λv c=>∃k:Nat,k<=m/\c=ι ε k/\v=ι υ (bV a / 2 ^ k)) (λ_ c=>m - (intOf c).toNat);case atStart=>exact ηT
 case round=>
  obtain⟨k,hk,rfl,rfl⟩:=hrel;have hr:0<=bV a / 2 ^ k/\bV a / 2 ^ k<=Md:=ξA
  have hs:=ag (show bV a / 2 ^ (k+1)=bV a / 2 ^ k / 2 by rw[Int.pow_succ,Int.ediv_ediv_of_nonneg τf]);exact ξv
theorem FN (a:Int)(i:Nat)(w:ϖ)(h0:64<=i)(h1:i<=95):
  CB 93 #[nv a,ι ε i] w (ι υ (ij a / 2 ^ (i - 64) % 2)):=by
 have r0:=dP a;have hidx:((i:Nat):Int) / 32=2:=ρa;obtain⟨m,hm⟩:∃m:Nat,m=(i - 64):=⟨_,rfl⟩;have hmod:((i:Nat):Int) % 32=(m:Int):=ρa;have hb:0<=(i:Int)/\(i:Int)<=127:=ρa;rw[<- hm];have Xg:m<=31:=ρa;clear hm h0 h1;unfold CB;go_in;go_wp2;go_loop [5,12] (λv c=>∃k:Nat,k<=m/\c=ι ε k/\v=ι υ (ij a / 2 ^ k)) (λ_ c=>m - (intOf c).toNat);case atStart=>exact ηT
 case round=>
  obtain⟨k,hk,rfl,rfl⟩:=hrel;have hr:0<=ij a / 2 ^ k/\ij a / 2 ^ k<=Md:=ξA
  have hs:=ag (show ij a / 2 ^ (k+1)=ij a / 2 ^ k / 2 by rw[Int.pow_succ,Int.ediv_ediv_of_nonneg τf]);exact ξv
theorem FO (a:Int)(i:Nat)(w:ϖ)(h0:96<=i)(h1:i<=127):
  CB 93 #[nv a,ι ε i] w (ι υ (jg a / 2 ^ (i - 96) % 2)):=by
 have r0:=dQ a;have hidx:((i:Nat):Int) / 32=3:=ρa;obtain⟨m,hm⟩:∃m:Nat,m=(i - 96):=⟨_,rfl⟩;have hmod:((i:Nat):Int) % 32=(m:Int):=ρa;have hb:0<=(i:Int)/\(i:Int)<=127:=ρa;rw[<- hm];have Xg:m<=31:=ρa;clear hm h0 h1;unfold CB;go_in;go_wp2;go_loop [5,12] (λv c=>∃k:Nat,k<=m/\c=ι ε k/\v=ι υ (jg a / 2 ^ k)) (λ_ c=>m - (intOf c).toNat);case atStart=>exact ηT
 case round=>
  obtain⟨k,hk,rfl,rfl⟩:=hrel;have hr:0<=jg a / 2 ^ k/\jg a / 2 ^ k<=Md:=ξA
  have hs:=ag (show jg a / 2 ^ (k+1)=jg a / 2 ^ k / 2 by rw[Int.pow_succ,Int.ediv_ediv_of_nonneg τf]);exact ξv
def i6 (a:Int)(n:Nat):Int:=a / 2 ^ n % 2
theorem AV (x m:Nat)(h:m<=31):x % Me / 2 ^ m % 2=x / 2 ^ m % 2:=by
 have e:4294967296=2 ^ m*2 ^ (32 - m):=by rw[<- Nat.pow_add,show m+(32 - m)=32 by omega]
 rw[e,Nat.mod_mul_right_div_self,Nat.mod_mod_of_dvd];exact Nat.dvd_trans (show 2∣2 ^ 1 by decide) (Nat.pow_dvd_pow 2 ρa)
theorem oq (a:Int)(ha:0<=a)(j m:Nat)(h:m<=31):a / 2 ^ (32*j) % Me / 2 ^ m % 2=i6 a (32*j+m):=by obtain⟨x,rfl⟩:=Int.eq_ofNat_of_zero_le ha;have h1:=AV (x / 2 ^ (32*j)) m h;rw[Nat.div_div_eq_div_mul,<- Nat.pow_add] at h1;unfold i6;have c1:((x:Int) / 2 ^ (32*j) % Me / 2 ^ m % 2)=((x / 2 ^ (32*j) % Me / 2 ^ m % 2:Nat):Int):=ρp;have c2:((x:Int) / 2 ^ (32*j+m) % 2)=((x / 2 ^ (32*j+m) % 2:Nat):Int):=ρp;rw[c1,c2,h1]
theorem Il (a:Int)(i:Nat)(w:ϖ)(ha:ai a)(h:i<=127):
  CB 93 #[nv a,ι ε i] w (i6 a i):=by
 rcases Nat.lt_or_ge i 32 with h0|h0
 ·have:=FL a i w ρa ρa;rw[show aX a=a / 2 ^ (32*0) % Me by simp[aX],oq a ha.1 0 i ρa] at this;simpa using this
 ·rcases Nat.lt_or_ge i 64 with h1|h1
  ·have:=FM a i w ρa ρa;rw[show bV a=a / 2 ^ (32*1) % Me by simp[bV],oq a ha.1 1 (i - 32) ρa,show 32*1+(i - 32)=i by omega] at this;exact this
  ·rcases Nat.lt_or_ge i 96 with h2|h2
   ·have:=FN a i w ρa ρa;rw[show ij a=a / 2 ^ (32*2) % Me by simp[ij],oq a ha.1 2 (i - 64) ρa,show 32*2+(i - 64)=i by omega] at this;exact this
   ·have:=FO a i w ρa ρa;rw[show jg a=a / 2 ^ (32*3) % Me by simp[jg],oq a ha.1 3 (i - 96) ρa,show 32*3+(i - 96)=i by omega] at this;exact this
def sw (a b:Int)(k:Nat)(q r:Int):Prop:=0<=q/\0<=r/\r<b/\q*b+r=a / 2 ^ (128 - k)/\k<=128
theorem FP (a i:Int)(j:Nat)(w:ϖ)(ha:ai a)(hj:j<=127)(hi:i=(j:Int)):
  CB 93 #[nv a,ι ε i] w (i6 a j):=by subst hi;exact Il a j w ha hj
theorem lj (a b c:Int)(w:ϖ)(ha:ai a)(hb:ai b)(hc:bf (a - b)=c):
  CB 39 #[nv a,nv b] w (nv c):=by subst hc;exact Ea a b w ha hb
theorem DY (n c:Int)(w:ϖ)(hc:lo n=c):
  CB 62 #[nv n] w c:=by subst hc;exact Io n w
theorem jU {P:Program} {f:Func} {Q:Ending->ϖ->Prop} {x:Exit} {a:Act} {W:ϖ} (F:ϖ->Prop)(h:F W)(k:∀v,F v->bodyPost P f Q x a v):bodyPost P f Q x a W:=k W h
theorem lF (a:Int)(j:Nat):0<=i6 a j/\i6 a j<=1:=by unfold i6;omega
theorem qJ {a b q r:Int} {k j:Nat} (h:sw a b k q r)(hj:j+k=127):(q+q)*b+(r+r+i6 a j)=a / 2 ^ (128 - (k+1)):=by obtain⟨_,_,_,h4,_⟩:=h;rw[show 128 - (k+1)=j by omega];rw[show 128 - k=j+1 by omega,Int.pow_succ,<- Int.ediv_ediv_of_nonneg τf] at h4;unfold i6;generalize a / 2 ^ j=x at*;rw[Int.add_mul];omega
theorem xD {a:Int} (ha:ai a)(n:Nat):a / 2 ^ n<=a/\0<=a / 2 ^ n:=by have hp:(0:Int)<2 ^ n:=Int.pow_pos ρa;exact⟨Int.ediv_le_self _ ha.1,Int.ediv_nonneg ha.1 ρa⟩
theorem FK {q b x:Int} (hq:0<=q)(hb:1<=b)(h:q*b<=x):q<=x:=by have:=ZU hb hq;omega
theorem yr {a b q r:Int} {k j:Nat} (ha:ai a)(hb:1<=b)(h:sw a b k q r)(hj:j+k=127)(hl:r+r+i6 a j<b):sw a b (k+1) (q+q) (r+r+i6 a j)/\ai (q+q):=by have hs:=qJ h hj;obtain⟨h1,h2,h3,_,_⟩:=h;have hr:=lF a j;have hd:=xD ha (128 - (k+1));have hq:=FK (q:=q+q) (b:=b) (x:=a / 2 ^ (128 - (k+1))) ρa hb ρa;exact⟨⟨by omega,by omega,hl,hs,by omega⟩,by omega,by have:=ha.2;omega⟩
theorem yt {a b q r:Int} {k j:Nat} (ha:ai a)(hb:1<=b)(h:sw a b k q r)(hj:j+k=127)(hl:¬r+r+i6 a j<b):sw a b (k+1) (q+q+1) (r+r+i6 a j - b)/\ai (q+q+1):=by
 have hs:=qJ h hj;obtain⟨h1,h2,h3,_,_⟩:=h;have hr:=lF a j;have hd:=xD ha (128 - (k+1));have e:(q+q+1)*b=(q+q)*b+b:=by rw[Int.add_mul (q+q) 1 b,Int.one_mul]
 have hq:=FK (q:=q+q+1) (b:=b) (x:=a / 2 ^ (128 - (k+1))) ρa hb ρa;exact⟨⟨by omega,by omega,by omega,by omega,by omega⟩,by omega,by have:=ha.2;omega⟩
theorem Bp {a b q r:Int} (hb:1<=b)(h:sw a b 128 q r):q=a / b/\r=a % b:=by obtain⟨_,h1,h2,h3,_⟩:=h;simp at h3;have:=(Int.ediv_emod_unique (show 0<b by omega) (a:=a) (r:=r) (q:=q)).2 ⟨by rw[Int.mul_comm];omega,h1,h2⟩;exact⟨this.1.symm,this.2.symm⟩
theorem wm {a b:Int} (ha:ai a):a / 2 ^ (128 - 0)=0*b+0:=by have e:(2:Int) ^ (128 - 0)=340282366920938463463374607431768211456:=ρf;rw[e];have:=ha.1;have:=ha.2;omega
theorem wn (a b:Int)(w:ϖ)(ha:ai a)(hb:1<=b)(f':b<=Ma):
  CB 58 #[nv a,b] w (χ #[nv (a / b),ι υ (a % b)]):=by
 unfold CB;go_in;go_wp2;go_loopw [11] (λi wr=>∃(k:Nat) (q r:Int),sw a b k q r/\i=ι ε k/\Below w w wr/\ah wr w (bC a) 70/\ah wr (w+1) f9 70/\ah wr (w+1+1) (bC q) 70/\ah wr (w+1+1+1) (bC r) 70) (λi _=>128 - (intOf i).toNat);case atStart=>exact⟨0,0,0,⟨by omega,by omega,by omega,(wm ha).symm,by omega⟩,rfl,ρE,ρB,ρB,(show ah _ _ f9 _ from ρB),(show ah _ _ f9 _ from ρB)⟩
 case round=>
  obtain⟨k,q,r,hrel,rfl,g0,A0,R0,Q0,S0⟩:=hrel;by_cases JM:k<128
  ·have cA:=A0.cell;have cR:=R0.cell;have cQ:=Q0.cell;have cS:=S0.cell;have fA:=A0.frozen;have fR:=R0.frozen;have fQ:=Q0.frozen;have fS:=S0.frozen;have zA:=A0.size;have zR:=R0.size;have zQ:=Q0.size;have zS:=S0.size;obtain⟨j,hj⟩:∃j:Nat,j+k=127:=⟨127 - k,by omega⟩;have hj':=ag hj;have hjk:(127:Int) - (k:Int)<=(j:Int)/\(j:Int)<=127 - (k:Int):=ρa;have Qd:j<=127:=ρa;have Hkw:=ag (show IntKind.i64.wrap (127 - (k:Int))=(j:Int) by rw[IntWalk.i64_in _ ρa];omega);clear hj;have hd:=dt ((k:Int)<128);obtain⟨r2,NX⟩:=Nq (r+r+i6 a j);have Hr2:=ag NX;clear NX;have hbit:=lF a j;have Vk:ai r/\ai r2:=by obtain⟨_,h1,h2,_⟩:=hrel;have:=Hr2.out;unfold ai;omega
   have Wt:=ag hrel;clear hrel;go_upto_region 6 with (fail);go_cut [11] (λi wx=>i=ι ε k/\Below w w wx/\ah wx w (bC a) 70/\ah wx (w+1) f9 70/\ah wx (w+1+1) (bC q) 70/\ah wx (w+1+1+1) (bC r2) 70);case first=>
    go_region_with (first
      | (go_at_call 93;(with_reducible refine(FP a _ j _ ha Qd (by first | exact Hkw.out | omega)).mono ?_);refine bm ?_;intro w' f' JZ JY;have JQ:ah w' w (bC a) 70:=Zv f';have cA:=JQ.cell;have fA:=JQ.frozen;have zA:=JQ.size;have J':ah w' (w+1) f9 70:=Zv f';have cR:=J'.cell;have fR:=J'.frozen;have zR:=J'.size;have Lg:ah w' (w+1+1) (bC q) 70:=Zv f';have cQ:=Lg.cell;have fQ:=Lg.frozen;have zQ:=Lg.size;have MQ:ah w' (w+1+1+1) (bC r) 70:=Zv f';have cS:=MQ.cell;have fS:=MQ.frozen;have zS:=MQ.size;clear f')
      | (go_at_call 92;(with_reducible refine(tH r (i6 a j) r2 _ Vk.1 hbit Hr2.out Vk.2).mono ?_);refine bm ?_;intro w' f' JZ JY;have JQ:ah w' w (bC a) 70:=Zv f';have cA:=JQ.cell;have fA:=JQ.frozen;have zA:=JQ.size;have J':ah w' (w+1) f9 70:=Zv f';have cR:=J'.cell;have fR:=J'.frozen;have zR:=J'.size;have Lg:ah w' (w+1+1) (bC q) 70:=Zv f';have cQ:=Lg.cell;have fQ:=Lg.frozen;have zQ:=Lg.size;have MQ:ah w' (w+1+1+1) (bC r) 70:=Zv f';have cS:=MQ.cell;have fS:=MQ.frozen;have zS:=MQ.size;clear f'))
    all_goals
     go_wp2;go_meet;exact⟨rfl,ρE,ρB,ρB,ρB,ρB⟩
   case rest=>
    clear cA cR cQ cS fA fR fQ fS zA zR zQ zS A0 R0 Q0 S0 g0;obtain⟨rfl,g1,A1,R1,Q1,S1⟩:=hcut;have cA:=A1.cell;have cR:=R1.cell;have cQ:=Q1.cell;have cS:=S1.cell;have fA:=A1.frozen;have fR:=R1.frozen;have fQ:=Q1.frozen;have fS:=S1.frozen;have zA:=A1.size;have zR:=R1.size;have zQ:=Q1.size;have zS:=S1.size;have UY:ai b:=ρz;by_cases hl:r2<b
    ·have dl:=ZT hl;have hq:=yr ha hb Wt.out hj'.out (by rw[Hr2.out];exact hl);rw[Hr2.out] at hq;have Hq:=ag hq;clear hq;have Qy:ai q/\ai (q+q):=by have:=Hq.out.2;obtain⟨h1,_⟩:=Wt.out;unfold ai at*;omega
     go_wp2_with fail;go_region_held3 (λv=>(∀i,v.cell? ⟨w,i,none⟩=(bC a)[i]?)/\w.heap.size<v/\ah v w (bC a) 70/\(∀i,v.cell? ⟨w+1,i,none⟩=f9[i]?)/\w.heap.size+1<v/\ah v (w+1) f9 70/\(∀i,v.cell? ⟨w+1+1,i,none⟩=(bC q)[i]?)/\w.heap.size+1+1<v/\ah v (w+1+1) (bC q) 70/\(∀i,v.cell? ⟨w+1+1+1,i,none⟩=(bC r2)[i]?)/\w.heap.size+1+1+1<v/\ah v (w+1+1+1) (bC r2) 70/\Below w w v)
      (first
       | (refine⟨?_,?_,?_,?_,?_,?_,?_,?_,?_,?_,?_,?_,?_⟩<;>first | (with_reducible assumption) | ((repeat' (first | (with_reducible (first | assumption | exact ah.alloc_new _ _ _ ρ3 | apply ah.drewN | apply ah.drew | apply ah.alloc_old | apply ah.set_same | apply ah.set_other)) | (show (_:Nat)≠_;first | omega | (simp;done) | (simp;omega)) | ((simp only[List.setIfInBounds_toArray,List.set_cons_succ,List.set_cons_zero]);(with_reducible exact rfl)) | (with_reducible exact rfl) | (show (_:Array ϗ)=_;exact rfl)));done) | ((repeat' (first | (with_reducible (first | exact Below.refl _ _ | assumption | refine below_drewN ?_ _ | refine Below.drew ?_ | refine Below.alloc ?_ ?_ _ | refine Below.setCell ?_ ?_ _)) | go_size));done) | omega | (go_simp;done) | (simp;done) | (exact ah.cell ρB)))
      (first
       | (go_at_call 60;(with_reducible refine(BF b _ ρa f').mono ?_);refine bm ?_;intro w' f' JZ JY;have JQ:ah w' w (bC a) 70:=Zv f';have hqA:=JQ.cell;have hzA:=JQ.size;have J':ah w' (w+1) f9 70:=Zv f';have hqR:=J'.cell;have hzR:=J'.size;have Lg:ah w' (w+1+1) (bC q) 70:=Zv f';have hqQ:=Lg.cell;have hzQ:=Lg.size;have MQ:ah w' (w+1+1+1) (bC r2) 70:=Zv f';have hqS:=MQ.cell;have hzS:=MQ.size;clear f')
       | (go_at_call 23;(with_reducible refine(yw r2 b _ Vk.2 UY).mono ?_);refine bm ?_;intro w' f' JZ JY;have JQ:ah w' w (bC a) 70:=Zv f';have hqA:=JQ.cell;have hzA:=JQ.size;have J':ah w' (w+1) f9 70:=Zv f';have hqR:=J'.cell;have hzR:=J'.size;have Lg:ah w' (w+1+1) (bC q) 70:=Zv f';have hqQ:=Lg.cell;have hzQ:=Lg.size;have MQ:ah w' (w+1+1+1) (bC r2) 70:=Zv f';have hqS:=MQ.cell;have hzS:=MQ.size;clear f'))
     all_goals
      go_wp2_with fail;refine(tH q 0 (q+q) _ Qy.1 ρa ρa Qy.2).mono ?_;rintro e w5 ⟨rfl,KD⟩;have A5:ah w5 w (bC a) 70:=Zv KD;have R5:ah w5 (w+1) f9 70:=Zv KD;have Q5:ah w5 (w+1+1) (bC q) 70:=Zv KD;have S5:ah w5 (w+1+1+1) (bC r2) 70:=Zv KD;have g5:=Tg w KD;have RP:=KD.size;(try simp at RP);clear KD;replace cA:=A5.cell;replace fA:=A5.frozen;replace zA:=A5.size;replace cR:=R5.cell;replace fR:=R5.frozen;replace zR:=R5.size;replace cQ:=Q5.cell;replace fQ:=Q5.frozen;replace zQ:=Q5.size;replace cS:=S5.cell;replace fS:=S5.frozen;replace zS:=S5.size;go_wp2;go_roundw;case rel=>first|exact⟨k+1,q+q,r2,Hq.out.1,by go_num,ρE,ρB,ρB,ρB,ρB⟩|((repeat apply Exists.intro);exact⟨⟨k+1,q+q,r2,Hq.out.1,by go_num,ρE,ρB,ρB,ρB,ρB⟩,rfl⟩)
      case measure=>simp[intOf];omega
    ·have dl:=ZF hl;have hq:=yt ha hb Wt.out hj'.out (by rw[Hr2.out];exact hl);rw[Hr2.out] at hq;have Hq:=ag hq;clear hq;have Qy:ai q/\ai (q+q+1):=by have:=Hq.out.2;obtain⟨h1,_⟩:=Wt.out;unfold ai at*;omega
     have hm:=ag (show bf (r2 - b)=r2 - b from gL (by obtain⟨h1,h2⟩:=Vk.2;unfold ai;omega));go_wp2_with fail;go_region_held3 (λv=>(∀i,v.cell? ⟨w,i,none⟩=(bC a)[i]?)/\w.heap.size<v/\ah v w (bC a) 70/\(∀i,v.cell? ⟨w+1,i,none⟩=f9[i]?)/\w.heap.size+1<v/\ah v (w+1) f9 70/\(∀i,v.cell? ⟨w+1+1,i,none⟩=(bC q)[i]?)/\w.heap.size+1+1<v/\ah v (w+1+1) (bC q) 70/\(∀i,v.cell? ⟨w+1+1+1,i,none⟩=(bC r2)[i]?)/\w.heap.size+1+1+1<v/\ah v (w+1+1+1) (bC r2) 70/\Below w w v)
      (first
       | (refine⟨?_,?_,?_,?_,?_,?_,?_,?_,?_,?_,?_,?_,?_⟩<;>first | (with_reducible assumption) | ((repeat' (first | (with_reducible (first | assumption | exact ah.alloc_new _ _ _ ρ3 | apply ah.drewN | apply ah.drew | apply ah.alloc_old | apply ah.set_same | apply ah.set_other)) | (show (_:Nat)≠_;first | omega | (simp;done) | (simp;omega)) | ((simp only[List.setIfInBounds_toArray,List.set_cons_succ,List.set_cons_zero]);(with_reducible exact rfl)) | (with_reducible exact rfl) | (show (_:Array ϗ)=_;exact rfl)));done) | ((repeat' (first | (with_reducible (first | exact Below.refl _ _ | assumption | refine below_drewN ?_ _ | refine Below.drew ?_ | refine Below.alloc ?_ ?_ _ | refine Below.setCell ?_ ?_ _)) | go_size));done) | omega | (go_simp;done) | (simp;done) | (exact ah.cell ρB)))
      (first
       | (go_at_call 60;(with_reducible refine(BF b _ ρa f').mono ?_);refine bm ?_;intro w' f' JZ JY;have JQ:ah w' w (bC a) 70:=Zv f';have hqA:=JQ.cell;have hzA:=JQ.size;have J':ah w' (w+1) f9 70:=Zv f';have hqR:=J'.cell;have hzR:=J'.size;have Lg:ah w' (w+1+1) (bC q) 70:=Zv f';have hqQ:=Lg.cell;have hzQ:=Lg.size;have MQ:ah w' (w+1+1+1) (bC r2) 70:=Zv f';have hqS:=MQ.cell;have hzS:=MQ.size;clear f')
       | (go_at_call 23;(with_reducible refine(yw r2 b _ Vk.2 UY).mono ?_);refine bm ?_;intro w' f' JZ JY;have JQ:ah w' w (bC a) 70:=Zv f';have hqA:=JQ.cell;have hzA:=JQ.size;have J':ah w' (w+1) f9 70:=Zv f';have hqR:=J'.cell;have hzR:=J'.size;have Lg:ah w' (w+1+1) (bC q) 70:=Zv f';have hqQ:=Lg.cell;have hzQ:=Lg.size;have MQ:ah w' (w+1+1+1) (bC r2) 70:=Zv f';have hqS:=MQ.cell;have hzS:=MQ.size;clear f'))
     all_goals
      go_wp2_with fail;go_region_with (first
        | (go_at_call 60;(with_reducible refine(BF b _ ρa f').mono ?_);refine bm ?_;intro w' f' JZ JY;have JQ:ah w' w (bC a) 70:=Zv f';have cA:=JQ.cell;have fA:=JQ.frozen;have zA:=JQ.size;have J':ah w' (w+1) f9 70:=Zv f';have cR:=J'.cell;have fR:=J'.frozen;have zR:=J'.size;have Lg:ah w' (w+1+1) (bC q) 70:=Zv f';have cQ:=Lg.cell;have fQ:=Lg.frozen;have zQ:=Lg.size;have MQ:ah w' (w+1+1+1) (bC r2) 70:=Zv f';have cS:=MQ.cell;have fS:=MQ.frozen;have zS:=MQ.size;clear f')
        | (go_at_call 39;(with_reducible refine(lj r2 b (r2 - b) _ Vk.2 UY hm.out).mono ?_);refine bm ?_;intro w' f' JZ JY;have JQ:ah w' w (bC a) 70:=Zv f';have cA:=JQ.cell;have fA:=JQ.frozen;have zA:=JQ.size;have J':ah w' (w+1) f9 70:=Zv f';have cR:=J'.cell;have fR:=J'.frozen;have zR:=J'.size;have Lg:ah w' (w+1+1) (bC q) 70:=Zv f';have cQ:=Lg.cell;have fQ:=Lg.frozen;have zQ:=Lg.size;have MQ:ah w' (w+1+1+1) (bC r2) 70:=Zv f';have cS:=MQ.cell;have fS:=MQ.frozen;have zS:=MQ.size;clear f'))
      all_goals
       go_wp2_with fail;refine(tH q 1 (q+q+1) _ Qy.1 ρa ρa Qy.2).mono ?_;rintro e w5 ⟨rfl,KD⟩;have A5:ah w5 w (bC a) 70:=Zv KD;have R5:ah w5 (w+1) f9 70:=Zv KD;have Q5:ah w5 (w+1+1) (bC q) 70:=Zv KD;have S5:ah w5 (w+1+1+1) (bC ((r2 - b))) 70:=Zv KD;have g5:=Tg w KD;have RP:=KD.size;(try simp at RP);clear KD;replace cA:=A5.cell;replace fA:=A5.frozen;replace zA:=A5.size;replace cR:=R5.cell;replace fR:=R5.frozen;replace zR:=R5.size;replace cQ:=Q5.cell;replace fQ:=Q5.frozen;replace zQ:=Q5.size;replace cS:=S5.cell;replace fS:=S5.frozen;replace zS:=S5.size;go_wp2;go_roundw;case rel=>first|exact⟨k+1,q+q+1,r2 - b,Hq.out.1,by go_num,ρE,ρB,ρB,ρB,ρB⟩|((repeat apply Exists.intro);exact⟨⟨k+1,q+q+1,r2 - b,Hq.out.1,by go_num,ρE,ρB,ρB,ρB,ρB⟩,rfl⟩)
       case measure=>simp[intOf];omega
  ·have hk:k=128:=by obtain⟨_,_,_,_,h5⟩:=hrel;omega
   obtain rfl:=hk;have hq:=Bp hb hrel;have hlo:=ag (show lo r=r by obtain⟨_,h1,h2,_⟩:=hrel;unfold lo;omega);have e1:=ag hq.1;have e2:=ag hq.2;clear hq hrel JM;have cA:=A0.cell;have cR:=R0.cell;have cQ:=Q0.cell;have cS:=S0.cell;have fA:=A0.frozen;have fR:=R0.frozen;have fQ:=Q0.frozen;have fS:=S0.frozen;have zA:=A0.size;have zR:=R0.size;have zQ:=Q0.size;have zS:=S0.size;go_wp2_with fail;go_region_with (first
     | (go_at_call 62;(with_reducible refine(DY r r _ hlo.out).mono ?_);refine bm ?_;intro w' f' JZ JY;have JQ:ah w' w (bC a) 70:=Zv f';have cA:=JQ.cell;have fA:=JQ.frozen;have zA:=JQ.size;have J':ah w' (w+1) f9 70:=Zv f';have cR:=J'.cell;have fR:=J'.frozen;have zR:=J'.size;have Lg:ah w' (w+1+1) (bC q) 70:=Zv f';have cQ:=Lg.cell;have fQ:=Lg.frozen;have zQ:=Lg.size;have MQ:ah w' (w+1+1+1) (bC r) 70:=Zv f';have cS:=MQ.cell;have fS:=MQ.frozen;have zS:=MQ.size;clear f'))
   all_goals
    go_wp2;refine jU (λv=>Below w w v/\ah v (w+1) (bC q) 70) ⟨ρE,ρB⟩ ?_;clear cA cR cQ cS fA fR fQ fS zA zR zQ zS;rintro v ⟨gv,Bv⟩;have cv:=Bv.cell;refine ZO (v:=χ #[nv q,r]) (by simp[results,Tryz.results58,go_sem,cv]) rfl ⟨?_,gv⟩;rw[e1.out,e2.out]
end Go.Proofs.YtfdlemkplejdnaaGreat
