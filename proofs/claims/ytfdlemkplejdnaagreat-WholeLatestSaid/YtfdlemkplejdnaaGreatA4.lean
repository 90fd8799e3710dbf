/- WholeLatest, part 4. Conditions: none. -/
import Derived.Test.YtfdlemkplejdnaaGreatA2
namespace Go.Proofs.YtfdlemkplejdnaaGreat
open Go.RowKit Go.Sort
open Value renaming int->ι,pointer->ψ,slice->ζ,tuple->χ,agg->φ,map->μ,bool->β
open IntKind renaming u64->υ,i64->ε,u16->ω
open Ending renaming returned->ϰ
open Go.Proofs.Tryz renaming prog->Ψ,underlying3->Θ,underlying147->Δ,underlying152->Γ,underlying202->Φ,underlying39->Ξ,underlying207->Ω
open Go renaming World->ϖ,Value->ϗ
set_option linter.unusedVariables false
set_option linter.unusedSimpArgs false
set_option maxHeartbeats 8000000
set_option maxRecDepth 100000
theorem Cg (v:Int)(w:ϖ)(h0:0<=v)(h1:v<=Ma):
  CB 60 #[v] w (nv v):=by
 have e:nv v=φ #[ι υ (v % Me),ι υ (v / Me),Ky,Ky]:=(i9 ρa ρa ρa ρa ρa).symm;rw[e];unfold CB;go_in;go_wp2;go_returns;exact⟨rfl,ρE⟩
theorem Jf (n:Int)(w:ϖ)(hn:ai n):Calls Ψ 63 (mV n) w λe w'=>e=ϰ (nv n)/\Below w w w':=by
 have r1:=fo n;have r2:=dX n;have e:nv n=φ #[ι υ (lo n % Me),ι υ (lo n / Me),ι υ (hi n % Me),ι υ (hi n / Me)]:=(i9 ρa ρa ρa ρa (by unfold ai at hn;unfold hi lo;omega)).symm;rw[e];go_in;go_wp2;go_returns;exact⟨rfl,ρE⟩
theorem Gw (n:Int)(w:ϖ):
  CB 61 #[nv n] w (hi n):=by
 have r0:=dS n;have r1:=dT n;have r2:=dU n;have r3:=dV n;unfold CB;go_in;go_wp2;go_returns;exact⟨dY (by unfold jT iU hi;omega),ρE⟩
theorem I5 (n:Int)(w:ϖ):
  CB 62 #[nv n] w (lo n):=by
 have r0:=dS n;have r1:=dT n;have r2:=dU n;have r3:=dV n;unfold CB;go_in;go_wp2;go_returns;exact⟨dY (by unfold ct aX lo;omega),ρE⟩
theorem IW (a b:Int)(w:ϖ)(ha:ai a)(hb:ai b):
  CB 94 #[nv a,nv b] w (χ #[nv (bh (a+b)),ι υ ((a+b) / 340282366920938463463374607431768211456)]):=by
 have r0:=dS a;have r1:=dT a;have r2:=dU a;have r3:=dV a;have s0:=dS b;have s1:=dT b;have s2:=dU b;have s3:=dV b;unfold CB;go_in;go_wp2;refine wp_loop_rounds 5 ?_
 iterate 4
  rw[di];go_wp2;go_quiet (fail);go_wp2
 rw[di];go_wp2;go_returns;have da:=De ha;have db:=De hb;refine⟨GM (i9 ρa ρa ρa ρa ?_) ?_,ρE⟩
 ·unfold bh;omega
 ·omega
theorem GI (a b:Int)(w:ϖ)(ha:ai a)(hb:ai b):
  CB 59 #[nv a,nv b] w (nv (bh (a+b))):=by
 unfold CB;go_in;go_wp2_with fail;refine(IW a b _ ha hb).mono ?_;rintro e w1 ⟨rfl,Kr⟩;have KN:=Kr.size;(try simp at KN);obtain⟨Ub,hf1⟩:=FP Kr
 try have z1:=Nat.lt_of_succ_le KN
 have k1:=Tg w Kr;have g1:=k1;clear Kr k1;go_wp2;refine qO (v:=nv (bh (a+b))) (by simp[results,Tryz.results59,go_sem,Ub,z1]) rfl ⟨rfl,ρE⟩
theorem ET (a b:Int)(w:ϖ)(ha:ai a)(hb:ai b):
  CB 39 #[nv a,nv b] w (nv (bh (a - b))):=by
 have r0:=dS a;have r1:=dT a;have r2:=dU a;have r3:=dV a;have s0:=dS b;have s1:=dT b;have s2:=dU b;have s3:=dV b;unfold CB;go_in;go_wp2;refine wp_loop_rounds 5 ?_
 iterate 4
  rw[di];go_wp2;go_quiet (fail);go_wp2
 rw[di];go_wp2;go_returns;have da:=De ha;have db:=De hb;refine⟨lx (i9 ρa ρa ρa ρa ?_),ρE⟩;unfold bh;omega
theorem yX (a b:Int)(w:ϖ)(ha:ai a)(hb:ai b):
  CB 23 #[nv a,nv b] w (β (decide (a<b))):=by
 have r0:=dS a;have r1:=dT a;have r2:=dU a;have r3:=dV a;have s0:=dS b;have s1:=dT b;have s2:=dU b;have s3:=dV b;have da:=ag (De ha);have db:=ag (De hb);unfold CB;go_in;go_wp2;refine wp_loop_rounds 5 ?_;rw[di];go_wp2;go_quiet (fail);go_wp2
 ·exact ξ1
 rw[di];go_wp2;go_quiet (fail);go_wp2
 ·exact ξ1
 rw[di];go_wp2;go_quiet (fail);go_wp2
 ·exact ξ1
 rw[di];go_wp2;go_quiet (fail);go_wp2
 ·exact ξ1
 rw[di];go_wp2;go_ret;have da':=da.out;have db':=db.out;exact⟨GO (by symm;rw[decide_eq_false_iff_not];simp at*;omega),ρE⟩
theorem fw {va vb:ϗ} {a b c:Int} (h:va=nv a)(h':vb=nv b)(w:ϖ)(ha:ai a)(hb:ai b)(hs:a+b=c)(hc:ai c):
  CB 59 #[va,vb] w (nv c):=by
 subst h h' hs;have:=GI a b w ha hb;rw[fI hc] at this;exact this
theorem I7 (x y:Int)(w:ϖ)(hx:0<=x)(Uk:x<=Ma)(hy:0<=y)(hy':y<=Ma):
  CB 38 #[x,y] w (nv (x*y)):=by
 have r0:=dS x;have r1:=dT x;have r2:=dU x;have r3:=dV x;have s0:=dS y;have s1:=dT y;have s2:=dU y;have s3:=dV y;have p1:=fJ _ _ r0 s0;have p2:=fJ _ _ r0 s1;have p3:=fJ _ _ r1 s0;have p4:=fJ _ _ r1 s1;have p0:=kE x y hx Uk hy hy';have hp:aX x*aX y+aX x*ct y*Me+ct x*aX y*Me+ct x*ct y*Mf=x*y:=by
  have e1:ct x=x / Me:=by unfold ct;omega
  have e2:ct y=y / Me:=by unfold ct;omega
  rw[nX x y,e1,e2];unfold aX;omega
 have Hp:=ag hp;clear hp;unfold CB;go_in;go_wp2_with fail;refine(Cg x _ hx Uk).mono ?_;rintro e w1 ⟨rfl,Kr⟩;have A1:ah w1 w gc 70:=Zv Kr;refine η0 ?_;intro g1 KN;clear Kr;have rA:=A1.r;go_wp2_with fail;refine(Cg y _ hy hy').mono ?_;rintro e w2 ⟨rfl,Kx⟩;have A2:=A1.tr Kx;have B2:ah w2 w1 (bw x) 70:=Zv Kx;refine η9 ?_;intro g2 Li;clear Kx rA;have rA:=A2.r;have Rr:=B2.r;have l1:w.heap.size<w1:=ρa;have l2:w1.heap.size<w2:=ρa;go_wp2;refine wp_loop_rounds 3 ?_;rw[di];go_wp2;refine wp_loop_rounds 3 ?_;refine bZ (λv=>Below w w v/\ah v w gc 70/\ah v w1 (bw x) 70/\ah v w2 (bw y) 70/\ah v (w2+1) gc 70) ⟨ρE,ρB,ρB,ρB,ρB⟩ ?_;clear rA;rintro w3 ⟨g3,A3,B3,C3,D3⟩;have rA:=A3.r;have Ss:=θ3 B3.r C3.r D3.r;rw[di];go_wp2;go_quiet (fail);go_wp2_with fail;refine(fw (a:=0) (b:=aX x*aX y) (c:=aX x*aX y) (i9 ρa ρa ρa ρa ρa) (i9 ρa ρa ρa ρa ρa) _ ρz ρz ρa ρz).mono ?_;rintro e u3 ⟨rfl,Lw⟩;have A3':ah u3 w gc 70:=Zv Lw;have B3':ah u3 w1 (bw x) 70:=Zv Lw;have C3':ah u3 w2 (bw y) 70:=Zv Lw;have D3':ah u3 (w2+1) gc 70:=Zv Lw;have g3':=Tg w Lw;have hz3':=Lw.size;(try simp at hz3');clear Lw rA;have rA:=A3'.r;replace Ss:=θ3 B3'.r C3'.r D3'.r;go_wp2;refine bZ (λv=>Below w w v/\ah v w gc 70/\ah v w1 (bw x) 70/\ah v w2 (bw y) 70/\ah v (w2+1) (bw (aX x*aX y)) 70) ⟨ρE,ρB,ρB,ρB,ρB⟩ ?_;clear rA;rintro w4 ⟨g4,A4,B4,C4,D4⟩;have rA:=A4.r;replace Ss:=θ3 B4.r C4.r D4.r;rw[di];go_wp2;go_quiet (fail);go_wp2_with fail;refine(fw (a:=aX x*aX y) (b:=aX x*ct y*Me) (c:=aX x*aX y+aX x*ct y*Me) rfl (i9 ρa ρa ρa ρa ρa) _ ρz ρz ρa ρz).mono ?_;rintro e u4 ⟨rfl,MV⟩;have A4':ah u4 w gc 70:=Zv MV;have B4':ah u4 w1 (bw x) 70:=Zv MV;have C4':ah u4 w2 (bw y) 70:=Zv MV;have D4':ah u4 (w2+1) (bw (aX x*aX y)) 70:=Zv MV;have g4':=Tg w MV;have hz4':=MV.size;(try simp at hz4');clear MV rA;have rA:=A4'.r;replace Ss:=θ3 B4'.r C4'.r D4'.r;go_wp2;rw[di];go_wp2;rw[di];go_wp2;refine wp_loop_rounds 3 ?_;refine bZ (λv=>Below w w v/\ah v w gc 70/\ah v w1 (bw x) 70/\ah v w2 (bw y) 70/\ah v (w2+1) (bw (aX x*aX y+aX x*ct y*Me)) 70) ⟨ρE,ρB,ρB,ρB,ρB⟩ ?_;clear rA;rintro w5 ⟨g5,A5,B5,C5,D5⟩;have rA:=A5.r;replace Ss:=θ3 B5.r C5.r D5.r;rw[di];go_wp2;go_quiet (fail);go_wp2_with fail;refine(fw (a:=aX x*aX y+aX x*ct y*Me) (b:=ct x*aX y*Me) (c:=aX x*aX y+aX x*ct y*Me+ct x*aX y*Me) rfl (i9 ρa ρa ρa ρa ρa) _ ρz ρz ρa ρz).mono ?_;rintro e u5 ⟨rfl,Lq⟩;have A5':ah u5 w gc 70:=Zv Lq;have B5':ah u5 w1 (bw x) 70:=Zv Lq;have C5':ah u5 w2 (bw y) 70:=Zv Lq;have D5':ah u5 (w2+1) (bw (aX x*aX y+aX x*ct y*Me)) 70:=Zv Lq;have g5':=Tg w Lq;have hz5':=Lq.size;(try simp at hz5');clear Lq rA;have rA:=A5'.r;replace Ss:=θ3 B5'.r C5'.r D5'.r;go_wp2;refine bZ (λv=>Below w w v/\ah v w gc 70/\ah v w1 (bw x) 70/\ah v w2 (bw y) 70/\ah v (w2+1) (bw (aX x*aX y+aX x*ct y*Me+ct x*aX y*Me)) 70) ⟨ρE,ρB,ρB,ρB,ρB⟩ ?_;clear rA;rintro w6 ⟨g6,A6,B6,C6,D6⟩;have rA:=A6.r;replace Ss:=θ3 B6.r C6.r D6.r;rw[di];go_wp2;go_quiet (fail);go_wp2_with fail;refine(fw (a:=aX x*aX y+aX x*ct y*Me+ct x*aX y*Me) (b:=ct x*ct y*Mf) (c:=x*y) rfl (i9 ρa ρa ρa ρa ρa) _ ρz ρz Hp.out ρz).mono ?_;rintro e u6 ⟨rfl,Rl⟩;have A6':ah u6 w gc 70:=Zv Rl;have B6':ah u6 w1 (bw x) 70:=Zv Rl;have C6':ah u6 w2 (bw y) 70:=Zv Rl;have D6':ah u6 (w2+1) (bw (aX x*aX y+aX x*ct y*Me+ct x*aX y*Me)) 70:=Zv Rl;have g6':=Tg w Rl;have hz6':=Rl.size;(try simp at hz6');clear Rl rA;have rA:=A6'.r;replace Ss:=θ3 B6'.r C6'.r D6'.r;go_wp2;rw[di];go_wp2;rw[di];go_wp2;refine qO (v:=nv (x*y)) (by simp[results,Tryz.results38,go_sem,rA.1]) rfl ⟨rfl,ρE⟩
theorem ui (a b c:Int)(w:ϖ)(ha:ai a)(hb:0<=b/\b<=1)(hc:a+a+b=c)(KU:ai c):
  CB 92 #[nv a,b] w (nv c):=by
 have h2:ai (a+a):=by unfold ai at*;omega
 unfold CB;go_in;go_wp2_with fail;refine(fw (a:=a) (b:=a) (c:=a+a) rfl rfl _ ha ha rfl h2).mono ?_;rintro e w1 ⟨rfl,Kr⟩;have R1:ah w1 (w+1) gc 70:=Zv Kr;refine η0 ?_;intro g1 KN;clear Kr;replace rR:=R1.r;go_wp2_with fail;refine(Cg b _ ρa ρa).mono ?_;rintro e w2 ⟨rfl,Kx⟩;have R2:=R1.tr Kx;refine η9 ?_;intro g2 Li;clear Kx;replace rR:=R2.r;go_wp2_with fail;refine(fw (a:=a+a) (b:=b) (c:=c) rfl rfl _ h2 ρz hc KU).mono ?_;rintro e w3 ⟨rfl,Lw⟩;have R3:=R2.tr Lw;refine δZ ?_;intro g3 NW;clear Lw;replace rR:=R3.r;go_wp2;refine qO (v:=nv c) (by simp[results,Tryz.results92,go_sem,rR.1]) rfl ⟨rfl,ρE⟩
theorem Gn (a:Int)(i:Nat)(w:ϖ)(h0:0<=i)(h1:i<=31):
  CB 93 #[nv a,ι ε i] w (ι υ (aX a / 2 ^ i % 2)):=by
 have r0:=dS a;have hidx:((i:Nat):Int) / 32=0:=ρa;have hmod:((i:Nat):Int) % 32=(i:Int):=ρa;unfold CB;go_in;go_wp2;go_loop [5,12] (λv c=>∃k:Nat,k<=i/\c=ι ε k/\v=ι υ (aX a / 2 ^ k)) (λ_ c=>i - (intOf c).toNat);case atStart=>exact ηV
 case round=>
  obtain⟨k,hk,rfl,rfl⟩:=hrel;have hr:0<=aX a / 2 ^ k/\aX a / 2 ^ k<=Md:=ξC
  have hs:=ag (show aX a / 2 ^ (k+1)=aX a / 2 ^ k / 2 by rw[Int.pow_succ,Int.ediv_ediv_of_nonneg τe]);by_cases Ku:k<i
  ·go_wp2;go_round;case rel=>exact⟨k+1,by omega,by go_num,by rw[hs.out]⟩
   case measure=>simp[intOf];omega
  ·obtain rfl:k=i:=by omega
   go_wp2;go_ret;exact⟨rfl,ρE⟩
theorem Gp (a:Int)(i:Nat)(w:ϖ)(h0:32<=i)(h1:i<=63):
  CB 93 #[nv a,ι ε i] w (ι υ (ct a / 2 ^ (i - 32) % 2)):=by
 have r0:=dT a;have hidx:((i:Nat):Int) / 32=1:=ρa;obtain⟨m,hm⟩:∃m:Nat,m=(i - 32):=⟨_,rfl⟩;have hmod:((i:Nat):Int) % 32=(m:Int):=ρa;have hb:0<=(i:Int)/\(i:Int)<=127:=ρa;rw[<- hm];have XF:m<=31:=ρa;clear hm h0 h1;unfold CB;go_in;go_wp2;go_loop [5,12] (λv c=>∃k:Nat,k<=m/\c=ι ε k/\v=ι υ (ct a / 2 ^ k)) (λ_ c=>m - (intOf c).toNat);case atStart=>exact ηV
 case round=>
  obtain⟨k,hk,rfl,rfl⟩:=hrel;have hr:0<=ct a / 2 ^ k/\ct a / 2 ^ k<=Md:=ξC
  have hs:=ag (show ct a / 2 ^ (k+1)=ct a / 2 ^ k / 2 by rw[Int.pow_succ,Int.ediv_ediv_of_nonneg τe]);exact ξx
theorem Gq (a:Int)(i:Nat)(w:ϖ)(h0:64<=i)(h1:i<=95):
  CB 93 #[nv a,ι ε i] w (ι υ (iU a / 2 ^ (i - 64) % 2)):=by
 have r0:=dU a;have hidx:((i:Nat):Int) / 32=2:=ρa;obtain⟨m,hm⟩:∃m:Nat,m=(i - 64):=⟨_,rfl⟩;have hmod:((i:Nat):Int) % 32=(m:Int):=ρa;have hb:0<=(i:Int)/\(i:Int)<=127:=ρa;rw[<- hm];have XF:m<=31:=ρa;clear hm h0 h1;unfold CB;go_in;go_wp2;go_loop [5,12] (λv c=>∃k:Nat,k<=m/\c=ι ε k/\v=ι υ (iU a / 2 ^ k)) (λ_ c=>m - (intOf c).toNat);case atStart=>exact ηV
 case round=>
  obtain⟨k,hk,rfl,rfl⟩:=hrel;have hr:0<=iU a / 2 ^ k/\iU a / 2 ^ k<=Md:=ξC
  have hs:=ag (show iU a / 2 ^ (k+1)=iU a / 2 ^ k / 2 by rw[Int.pow_succ,Int.ediv_ediv_of_nonneg τe]);exact ξx
theorem Gr (a:Int)(i:Nat)(w:ϖ)(h0:96<=i)(h1:i<=127):
  CB 93 #[nv a,ι ε i] w (ι υ (jT a / 2 ^ (i - 96) % 2)):=by
 have r0:=dV a;have hidx:((i:Nat):Int) / 32=3:=ρa;obtain⟨m,hm⟩:∃m:Nat,m=(i - 96):=⟨_,rfl⟩;have hmod:((i:Nat):Int) % 32=(m:Int):=ρa;have hb:0<=(i:Int)/\(i:Int)<=127:=ρa;rw[<- hm];have XF:m<=31:=ρa;clear hm h0 h1;unfold CB;go_in;go_wp2;go_loop [5,12] (λv c=>∃k:Nat,k<=m/\c=ι ε k/\v=ι υ (jT a / 2 ^ k)) (λ_ c=>m - (intOf c).toNat);case atStart=>exact ηV
 case round=>
  obtain⟨k,hk,rfl,rfl⟩:=hrel;have hr:0<=jT a / 2 ^ k/\jT a / 2 ^ k<=Md:=ξC
  have hs:=ag (show jT a / 2 ^ (k+1)=jT a / 2 ^ k / 2 by rw[Int.pow_succ,Int.ediv_ediv_of_nonneg τe]);exact ξx
def je (a:Int)(n:Nat):Int:=a / 2 ^ n % 2
theorem Bz (x m:Nat)(h:m<=31):x % Me / 2 ^ m % 2=x / 2 ^ m % 2:=by
 have e:4294967296=2 ^ m*2 ^ (32 - m):=by rw[<- Nat.pow_add,show m+(32 - m)=32 by omega]
 rw[e,Nat.mod_mul_right_div_self,Nat.mod_mod_of_dvd];exact Nat.dvd_trans (show 2∣2 ^ 1 by decide) (Nat.pow_dvd_pow 2 ρa)
theorem oY (a:Int)(ha:0<=a)(j m:Nat)(h:m<=31):a / 2 ^ (32*j) % Me / 2 ^ m % 2=je a (32*j+m):=by obtain⟨x,rfl⟩:=Int.eq_ofNat_of_zero_le ha;have h1:=Bz (x / 2 ^ (32*j)) m h;rw[Nat.div_div_eq_div_mul,<- Nat.pow_add] at h1;unfold je;have c1:((x:Int) / 2 ^ (32*j) % Me / 2 ^ m % 2)=((x / 2 ^ (32*j) % Me / 2 ^ m % 2:Nat):Int):=ρp;have c2:((x:Int) / 2 ^ (32*j+m) % 2)=((x / 2 ^ (32*j+m) % 2:Nat):Int):=ρp;rw[c1,c2,h1]
theorem IX (a:Int)(i:Nat)(w:ϖ)(ha:ai a)(h:i<=127):
  CB 93 #[nv a,ι ε i] w (je a i):=by
 rcases Nat.lt_or_ge i 32 with h0|h0
 ·have:=Gn a i w ρa ρa;rw[show aX a=a / 2 ^ (32*0) % Me by simp[aX],oY a ha.1 0 i ρa] at this;simpa using this
 ·rcases Nat.lt_or_ge i 64 with h1|h1
  ·have:=Gp a i w ρa ρa;rw[show ct a=a / 2 ^ (32*1) % Me by simp[ct],oY a ha.1 1 (i - 32) ρa,show 32*1+(i - 32)=i by omega] at this;exact this
  ·rcases Nat.lt_or_ge i 96 with h2|h2
   ·have:=Gq a i w ρa ρa;rw[show iU a=a / 2 ^ (32*2) % Me by simp[iU],oY a ha.1 2 (i - 64) ρa,show 32*2+(i - 64)=i by omega] at this;exact this
   ·have:=Gr a i w ρa ρa;rw[show jT a=a / 2 ^ (32*3) % Me by simp[jT],oY a ha.1 3 (i - 96) ρa,show 32*3+(i - 96)=i by omega] at this;exact this
def tj (a b:Int)(k:Nat)(q r:Int):Prop:=0<=q/\0<=r/\r<b/\q*b+r=a / 2 ^ (128 - k)/\k<=128
theorem Gs (a i:Int)(j:Nat)(w:ϖ)(ha:ai a)(hj:j<=127)(hi:i=(j:Int)):
  CB 93 #[nv a,ι ε i] w (je a j):=by subst hi;exact IX a j w ha hj
theorem vE (a b c:Int)(w:ϖ)(ha:ai a)(hb:ai b)(hc:bh (a - b)=c):
  CB 39 #[nv a,nv b] w (nv c):=by subst hc;exact ET a b w ha hb
theorem ER (n c:Int)(w:ϖ)(hc:lo n=c):
  CB 62 #[nv n] w c:=by subst hc;exact I5 n w
theorem kg {P:Program} {f:Func} {Q:Ending->ϖ->Prop} {x:Exit} {a:Act} {W:ϖ} (F:ϖ->Prop)(h:F W)(k:∀v,F v->bodyPost P f Q x a v):bodyPost P f Q x a W:=k W h
theorem lV (a:Int)(j:Nat):0<=je a j/\je a j<=1:=by unfold je;omega
theorem rO {a b q r:Int} {k j:Nat} (h:tj a b k q r)(hj:j+k=127):(q+q)*b+(r+r+je a j)=a / 2 ^ (128 - (k+1)):=by obtain⟨_,_,_,h4,_⟩:=h;rw[show 128 - (k+1)=j by omega];rw[show 128 - k=j+1 by omega,Int.pow_succ,<- Int.ediv_ediv_of_nonneg τe] at h4;unfold je;generalize a / 2 ^ j=x at*;rw[Int.add_mul];omega
theorem yf {a:Int} (ha:ai a)(n:Nat):a / 2 ^ n<=a/\0<=a / 2 ^ n:=by have hp:(0:Int)<2 ^ n:=Int.pow_pos ρa;exact⟨Int.ediv_le_self _ ha.1,Int.ediv_nonneg ha.1 ρa⟩
theorem Gm {q b x:Int} (hq:0<=q)(hb:1<=b)(h:q*b<=x):q<=x:=by have:=qU hb hq;omega
theorem yU {a b q r:Int} {k j:Nat} (ha:ai a)(hb:1<=b)(h:tj a b k q r)(hj:j+k=127)(hl:r+r+je a j<b):tj a b (k+1) (q+q) (r+r+je a j)/\ai (q+q):=by have hs:=rO h hj;obtain⟨h1,h2,h3,_,_⟩:=h;have hr:=lV a j;have hd:=yf ha (128 - (k+1));have hq:=Gm (q:=q+q) (b:=b) (x:=a / 2 ^ (128 - (k+1))) ρa hb ρa;exact⟨⟨by omega,by omega,hl,hs,by omega⟩,by omega,by have:=ha.2;omega⟩
theorem yV {a b q r:Int} {k j:Nat} (ha:ai a)(hb:1<=b)(h:tj a b k q r)(hj:j+k=127)(hl:¬r+r+je a j<b):tj a b (k+1) (q+q+1) (r+r+je a j - b)/\ai (q+q+1):=by
 have hs:=rO h hj;obtain⟨h1,h2,h3,_,_⟩:=h;have hr:=lV a j;have hd:=yf ha (128 - (k+1));have e:(q+q+1)*b=(q+q)*b+b:=by rw[Int.add_mul (q+q) 1 b,Int.one_mul]
 have hq:=Gm (q:=q+q+1) (b:=b) (x:=a / 2 ^ (128 - (k+1))) ρa hb ρa;exact⟨⟨by omega,by omega,by omega,by omega,by omega⟩,by omega,by have:=ha.2;omega⟩
theorem BR {a b q r:Int} (hb:1<=b)(h:tj a b 128 q r):q=a / b/\r=a % b:=by obtain⟨_,h1,h2,h3,_⟩:=h;simp at h3;have:=(Int.ediv_emod_unique (show 0<b by omega) (a:=a) (r:=r) (q:=q)).2 ⟨by rw[Int.mul_comm];omega,h1,h2⟩;exact⟨this.1.symm,this.2.symm⟩
theorem wW {a b:Int} (ha:ai a):a / 2 ^ (128 - 0)=0*b+0:=by have e:(2:Int) ^ (128 - 0)=340282366920938463463374607431768211456:=ρf;rw[e];have:=ha.1;have:=ha.2;omega
theorem wX (a b:Int)(w:ϖ)(ha:ai a)(hb:1<=b)(f':b<=Ma):
  CB 58 #[nv a,b] w (χ #[nv (a / b),ι υ (a % b)]):=by
 unfold CB;go_in;go_wp2;go_loopw [11] (λi wr=>∃(k:Nat) (q r:Int),tj a b k q r/\i=ι ε k/\Below w w wr/\ah wr w (bw a) 70/\ah wr (w+1) gc 70/\ah wr (w+1+1) (bw q) 70/\ah wr (w+1+1+1) (bw r) 70) (λi _=>128 - (intOf i).toNat);case atStart=>exact⟨0,0,0,⟨by omega,by omega,by omega,(wW ha).symm,by omega⟩,rfl,ρE,ρB,ρB,(show ah _ _ gc _ from ρB),(show ah _ _ gc _ from ρB)⟩
 case round=>
  obtain⟨k,q,r,hrel,rfl,g0,A0,R0,Q0,S0⟩:=hrel;by_cases Ku:k<128
  ·have cA:=A0.cell;have cR:=R0.cell;have cQ:=Q0.cell;have cS:=S0.cell;have fA:=A0.frozen;have fR:=R0.frozen;have fQ:=Q0.frozen;have fS:=S0.frozen;have zA:=A0.size;have zR:=R0.size;have zQ:=Q0.size;have zS:=S0.size;obtain⟨j,hj⟩:∃j:Nat,j+k=127:=⟨127 - k,by omega⟩;have hj':=ag hj;have hjk:(127:Int) - (k:Int)<=(j:Int)/\(j:Int)<=127 - (k:Int):=ρa;have QR:j<=127:=ρa;have Hkw:=ag (show IntKind.i64.wrap (127 - (k:Int))=(j:Int) by rw[IntWalk.i64_in _ ρa];omega);clear hj;have hd:=dt ((k:Int)<128);obtain⟨r2,OG⟩:=Nq (r+r+je a j);have Hr2:=ag OG;clear OG;have hbit:=lV a j;have VW:ai r/\ai r2:=by obtain⟨_,h1,h2,_⟩:=hrel;have:=Hr2.out;unfold ai;omega
   have WY:=ag hrel;clear hrel;go_upto_region 6 with (fail);go_cut [11] (λi wx=>i=ι ε k/\Below w w wx/\ah wx w (bw a) 70/\ah wx (w+1) gc 70/\ah wx (w+1+1) (bw q) 70/\ah wx (w+1+1+1) (bw r2) 70);case first=>
    go_region_with (first
      | (go_at_call 93;(with_reducible refine(Gs a _ j _ ha QR (by first | exact Hkw.out | omega)).mono ?_);refine bf ?_;intro w' f' KK KJ;have KA:ah w' w (bw a) 70:=Zv f';have cA:=KA.cell;have fA:=KA.frozen;have zA:=KA.size;have KT:ah w' (w+1) gc 70:=Zv f';have cR:=KT.cell;have fR:=KT.frozen;have zR:=KT.size;have Mj:ah w' (w+1+1) (bw q) 70:=Zv f';have cQ:=Mj.cell;have fQ:=Mj.frozen;have zQ:=Mj.size;have NH:ah w' (w+1+1+1) (bw r) 70:=Zv f';have cS:=NH.cell;have fS:=NH.frozen;have zS:=NH.size;clear f')
      | (go_at_call 92;(with_reducible refine(ui r (je a j) r2 _ VW.1 hbit Hr2.out VW.2).mono ?_);refine bf ?_;intro w' f' KK KJ;have KA:ah w' w (bw a) 70:=Zv f';have cA:=KA.cell;have fA:=KA.frozen;have zA:=KA.size;have KT:ah w' (w+1) gc 70:=Zv f';have cR:=KT.cell;have fR:=KT.frozen;have zR:=KT.size;have Mj:ah w' (w+1+1) (bw q) 70:=Zv f';have cQ:=Mj.cell;have fQ:=Mj.frozen;have zQ:=Mj.size;have NH:ah w' (w+1+1+1) (bw r) 70:=Zv f';have cS:=NH.cell;have fS:=NH.frozen;have zS:=NH.size;clear f'))
    all_goals
     go_wp2;go_meet;exact⟨rfl,ρE,ρB,ρB,ρB,ρB⟩
   case rest=>
    clear cA cR cQ cS fA fR fQ fS zA zR zQ zS A0 R0 Q0 S0 g0;obtain⟨rfl,g1,A1,R1,Q1,S1⟩:=hcut;have cA:=A1.cell;have cR:=R1.cell;have cQ:=Q1.cell;have cS:=S1.cell;have fA:=A1.frozen;have fR:=R1.frozen;have fQ:=Q1.frozen;have fS:=S1.frozen;have zA:=A1.size;have zR:=R1.size;have zQ:=Q1.size;have zS:=S1.size;have VL:ai b:=ρz;by_cases hl:r2<b
    ·have dl:=qT hl;have hq:=yU ha hb WY.out hj'.out (by rw[Hr2.out];exact hl);rw[Hr2.out] at hq;have Hq:=ag hq;clear hq;have Rt:ai q/\ai (q+q):=by have:=Hq.out.2;obtain⟨h1,_⟩:=WY.out;unfold ai at*;omega
     go_wp2_with fail;go_region_held3 (λv=>(∀i,v.cell? ⟨w,i,none⟩=(bw a)[i]?)/\w.heap.size<v/\ah v w (bw a) 70/\(∀i,v.cell? ⟨w+1,i,none⟩=gc[i]?)/\w.heap.size+1<v/\ah v (w+1) gc 70/\(∀i,v.cell? ⟨w+1+1,i,none⟩=(bw q)[i]?)/\w.heap.size+1+1<v/\ah v (w+1+1) (bw q) 70/\(∀i,v.cell? ⟨w+1+1+1,i,none⟩=(bw r2)[i]?)/\w.heap.size+1+1+1<v/\ah v (w+1+1+1) (bw r2) 70/\Below w w v)
      (first
       | (refine⟨?_,?_,?_,?_,?_,?_,?_,?_,?_,?_,?_,?_,?_⟩<;>first | (with_reducible assumption) | ((repeat' (first | (with_reducible (first | assumption | exact ah.alloc_new _ _ _ ρ4 | apply ah.drewN | apply ah.drew | apply ah.alloc_old | apply ah.set_same | apply ah.set_other)) | (show (_:Nat)≠_;first | omega | (simp;done) | (simp;omega)) | ((simp only[List.setIfInBounds_toArray,List.set_cons_succ,List.set_cons_zero]);(with_reducible exact rfl)) | (with_reducible exact rfl) | (show (_:Array ϗ)=_;exact rfl)));done) | ((repeat' (first | (with_reducible (first | exact Below.refl _ _ | assumption | refine below_drewN ?_ _ | refine Below.drew ?_ | refine Below.alloc ?_ ?_ _ | refine Below.setCell ?_ ?_ _)) | go_size));done) | omega | (go_simp;done) | (simp;done) | (exact ah.cell ρB)))
      (first
       | (go_at_call 60;(with_reducible refine(Cg b _ ρa f').mono ?_);refine bf ?_;intro w' f' KK KJ;have KA:ah w' w (bw a) 70:=Zv f';have hqA:=KA.cell;have hzA:=KA.size;have KT:ah w' (w+1) gc 70:=Zv f';have hqR:=KT.cell;have hzR:=KT.size;have Mj:ah w' (w+1+1) (bw q) 70:=Zv f';have hqQ:=Mj.cell;have hzQ:=Mj.size;have NH:ah w' (w+1+1+1) (bw r2) 70:=Zv f';have hqS:=NH.cell;have hzS:=NH.size;clear f')
       | (go_at_call 23;(with_reducible refine(yX r2 b _ VW.2 VL).mono ?_);refine bf ?_;intro w' f' KK KJ;have KA:ah w' w (bw a) 70:=Zv f';have hqA:=KA.cell;have hzA:=KA.size;have KT:ah w' (w+1) gc 70:=Zv f';have hqR:=KT.cell;have hzR:=KT.size;have Mj:ah w' (w+1+1) (bw q) 70:=Zv f';have hqQ:=Mj.cell;have hzQ:=Mj.size;have NH:ah w' (w+1+1+1) (bw r2) 70:=Zv f';have hqS:=NH.cell;have hzS:=NH.size;clear f'))
     all_goals
      go_wp2_with fail;refine(ui q 0 (q+q) _ Rt.1 ρa ρa Rt.2).mono ?_;rintro e w5 ⟨rfl,Lq⟩;have A5:ah w5 w (bw a) 70:=Zv Lq;have R5:ah w5 (w+1) gc 70:=Zv Lq;have Q5:ah w5 (w+1+1) (bw q) 70:=Zv Lq;have S5:ah w5 (w+1+1+1) (bw r2) 70:=Zv Lq;have g5:=Tg w Lq;have SK:=Lq.size;(try simp at SK);clear Lq;replace cA:=A5.cell;replace fA:=A5.frozen;replace zA:=A5.size;replace cR:=R5.cell;replace fR:=R5.frozen;replace zR:=R5.size;replace cQ:=Q5.cell;replace fQ:=Q5.frozen;replace zQ:=Q5.size;replace cS:=S5.cell;replace fS:=S5.frozen;replace zS:=S5.size;go_wp2;go_roundw;case rel=>first|exact⟨k+1,q+q,r2,Hq.out.1,by go_num,ρE,ρB,ρB,ρB,ρB⟩|((repeat apply Exists.intro);exact⟨⟨k+1,q+q,r2,Hq.out.1,by go_num,ρE,ρB,ρB,ρB,ρB⟩,rfl⟩)
      case measure=>simp[intOf];omega
    ·have dl:=qF hl;have hq:=yV ha hb WY.out hj'.out (by rw[Hr2.out];exact hl);rw[Hr2.out] at hq;have Hq:=ag hq;clear hq;have Rt:ai q/\ai (q+q+1):=by have:=Hq.out.2;obtain⟨h1,_⟩:=WY.out;unfold ai at*;omega
     have hm:=ag (show bh (r2 - b)=r2 - b from fI (by obtain⟨h1,h2⟩:=VW.2;unfold ai;omega));go_wp2_with fail;go_region_held3 (λv=>(∀i,v.cell? ⟨w,i,none⟩=(bw a)[i]?)/\w.heap.size<v/\ah v w (bw a) 70/\(∀i,v.cell? ⟨w+1,i,none⟩=gc[i]?)/\w.heap.size+1<v/\ah v (w+1) gc 70/\(∀i,v.cell? ⟨w+1+1,i,none⟩=(bw q)[i]?)/\w.heap.size+1+1<v/\ah v (w+1+1) (bw q) 70/\(∀i,v.cell? ⟨w+1+1+1,i,none⟩=(bw r2)[i]?)/\w.heap.size+1+1+1<v/\ah v (w+1+1+1) (bw r2) 70/\Below w w v)
      (first
       | (refine⟨?_,?_,?_,?_,?_,?_,?_,?_,?_,?_,?_,?_,?_⟩<;>first | (with_reducible assumption) | ((repeat' (first | (with_reducible (first | assumption | exact ah.alloc_new _ _ _ ρ4 | apply ah.drewN | apply ah.drew | apply ah.alloc_old | apply ah.set_same | apply ah.set_other)) | (show (_:Nat)≠_;first | omega | (simp;done) | (simp;omega)) | ((simp only[List.setIfInBounds_toArray,List.set_cons_succ,List.set_cons_zero]);(with_reducible exact rfl)) | (with_reducible exact rfl) | (show (_:Array ϗ)=_;exact rfl)));done) | ((repeat' (first | (with_reducible (first | exact Below.refl _ _ | assumption | refine below_drewN ?_ _ | refine Below.drew ?_ | refine Below.alloc ?_ ?_ _ | refine Below.setCell ?_ ?_ _)) | go_size));done) | omega | (go_simp;done) | (simp;done) | (exact ah.cell ρB)))
      (first
       | (go_at_call 60;(with_reducible refine(Cg b _ ρa f').mono ?_);refine bf ?_;intro w' f' KK KJ;have KA:ah w' w (bw a) 70:=Zv f';have hqA:=KA.cell;have hzA:=KA.size;have KT:ah w' (w+1) gc 70:=Zv f';have hqR:=KT.cell;have hzR:=KT.size;have Mj:ah w' (w+1+1) (bw q) 70:=Zv f';have hqQ:=Mj.cell;have hzQ:=Mj.size;have NH:ah w' (w+1+1+1) (bw r2) 70:=Zv f';have hqS:=NH.cell;have hzS:=NH.size;clear f')
       | (go_at_call 23;(with_reducible refine(yX r2 b _ VW.2 VL).mono ?_);refine bf ?_;intro w' f' KK KJ;have KA:ah w' w (bw a) 70:=Zv f';have hqA:=KA.cell;have hzA:=KA.size;have KT:ah w' (w+1) gc 70:=Zv f';have hqR:=KT.cell;have hzR:=KT.size;have Mj:ah w' (w+1+1) (bw q) 70:=Zv f';have hqQ:=Mj.cell;have hzQ:=Mj.size;have NH:ah w' (w+1+1+1) (bw r2) 70:=Zv f';have hqS:=NH.cell;have hzS:=NH.size;clear f'))
     all_goals
      go_wp2_with fail;go_region_with (first
        | (go_at_call 60;(with_reducible refine(Cg b _ ρa f').mono ?_);refine bf ?_;intro w' f' KK KJ;have KA:ah w' w (bw a) 70:=Zv f';have cA:=KA.cell;have fA:=KA.frozen;have zA:=KA.size;have KT:ah w' (w+1) gc 70:=Zv f';have cR:=KT.cell;have fR:=KT.frozen;have zR:=KT.size;have Mj:ah w' (w+1+1) (bw q) 70:=Zv f';have cQ:=Mj.cell;have fQ:=Mj.frozen;have zQ:=Mj.size;have NH:ah w' (w+1+1+1) (bw r2) 70:=Zv f';have cS:=NH.cell;have fS:=NH.frozen;have zS:=NH.size;clear f')
        | (go_at_call 39;(with_reducible refine(vE r2 b (r2 - b) _ VW.2 VL hm.out).mono ?_);refine bf ?_;intro w' f' KK KJ;have KA:ah w' w (bw a) 70:=Zv f';have cA:=KA.cell;have fA:=KA.frozen;have zA:=KA.size;have KT:ah w' (w+1) gc 70:=Zv f';have cR:=KT.cell;have fR:=KT.frozen;have zR:=KT.size;have Mj:ah w' (w+1+1) (bw q) 70:=Zv f';have cQ:=Mj.cell;have fQ:=Mj.frozen;have zQ:=Mj.size;have NH:ah w' (w+1+1+1) (bw r2) 70:=Zv f';have cS:=NH.cell;have fS:=NH.frozen;have zS:=NH.size;clear f'))
      all_goals
       go_wp2_with fail;refine(ui q 1 (q+q+1) _ Rt.1 ρa ρa Rt.2).mono ?_;rintro e w5 ⟨rfl,Lq⟩;have A5:ah w5 w (bw a) 70:=Zv Lq;have R5:ah w5 (w+1) gc 70:=Zv Lq;have Q5:ah w5 (w+1+1) (bw q) 70:=Zv Lq;have S5:ah w5 (w+1+1+1) (bw ((r2 - b))) 70:=Zv Lq;have g5:=Tg w Lq;have SK:=Lq.size;(try simp at SK);clear Lq;replace cA:=A5.cell;replace fA:=A5.frozen;replace zA:=A5.size;replace cR:=R5.cell;replace fR:=R5.frozen;replace zR:=R5.size;replace cQ:=Q5.cell;replace fQ:=Q5.frozen;replace zQ:=Q5.size;replace cS:=S5.cell;replace fS:=S5.frozen;replace zS:=S5.size;go_wp2;go_roundw;case rel=>first|exact⟨k+1,q+q+1,r2 - b,Hq.out.1,by go_num,ρE,ρB,ρB,ρB,ρB⟩|((repeat apply Exists.intro);exact⟨⟨k+1,q+q+1,r2 - b,Hq.out.1,by go_num,ρE,ρB,ρB,ρB,ρB⟩,rfl⟩)
       case measure=>simp[intOf];omega
  ·have hk:k=128:=by obtain⟨_,_,_,_,h5⟩:=hrel;omega
   obtain rfl:=hk;have hq:=BR hb hrel;have hlo:=ag (show lo r=r by obtain⟨_,h1,h2,_⟩:=hrel;unfold lo;omega);have e1:=ag hq.1;have e2:=ag hq.2;clear hq hrel Ku;have cA:=A0.cell;have cR:=R0.cell;have cQ:=Q0.cell;have cS:=S0.cell;have fA:=A0.frozen;have fR:=R0.frozen;have fQ:=Q0.frozen;have fS:=S0.frozen;have zA:=A0.size;have zR:=R0.size;have zQ:=Q0.size;have zS:=S0.size;go_wp2_with fail;go_region_with (first
     | (go_at_call 62;(with_reducible refine(ER r r _ hlo.out).mono ?_);refine bf ?_;intro w' f' KK KJ;have KA:ah w' w (bw a) 70:=Zv f';have cA:=KA.cell;have fA:=KA.frozen;have zA:=KA.size;have KT:ah w' (w+1) gc 70:=Zv f';have cR:=KT.cell;have fR:=KT.frozen;have zR:=KT.size;have Mj:ah w' (w+1+1) (bw q) 70:=Zv f';have cQ:=Mj.cell;have fQ:=Mj.frozen;have zQ:=Mj.size;have NH:ah w' (w+1+1+1) (bw r) 70:=Zv f';have cS:=NH.cell;have fS:=NH.frozen;have zS:=NH.size;clear f'))
   all_goals
    go_wp2;refine kg (λv=>Below w w v/\ah v (w+1) (bw q) 70) ⟨ρE,ρB⟩ ?_;clear cA cR cQ cS fA fR fQ fS zA zR zQ zS;rintro v ⟨gv,Bv⟩;have cv:=Bv.cell;refine qO (v:=χ #[nv q,r]) (by simp[results,Tryz.results58,go_sem,cv]) rfl ⟨?_,gv⟩;rw[e1.out,e2.out]
end Go.Proofs.YtfdlemkplejdnaaGreat
