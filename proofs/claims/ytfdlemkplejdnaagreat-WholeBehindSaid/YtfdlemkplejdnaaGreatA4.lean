/- WholeBehind, part 4. Conditions: none. -/
import Derived.Test.YtfdlemkplejdnaaGreatA2
namespace Go.Proofs.YtfdlemkplejdnaaGreat
open Go.RowKit Go.Sort
open Value renaming int->ι,pointer->ψ,slice->ζ,tuple->χ,agg->φ,map->μ,bool->β
open IntKind renaming u64->υ,i64->ε,u16->ω
open Ending renaming returned->ϰ
open Go.Proofs.Tryz renaming prog->Ψ,underlying3->Θ,underlying147->Δ,underlying152->Γ,underlying202->Φ,underlying39->Ξ,underlying207->Ω
open Go renaming World->ϖ,Value->ϗ
set_option linter.unusedVariables false
set_option linter.unusedSimpArgs false
set_option maxHeartbeats 8000000
set_option maxRecDepth 100000
theorem AD (v:Int)(w:ϖ)(h0:0<=v)(h1:v<=Ma):
  CB 60 #[v] w (nv v):=by
 have e:nv v=φ #[ι υ (v % Me),ι υ (v / Me),Ky,Ky]:=(iR ρa ρa ρa ρa ρa).symm;rw[e];unfold CB;go_in;go_wp2;go_returns;exact⟨rfl,ρE⟩
theorem Df (n:Int)(w:ϖ)(hn:ai n):Calls Ψ 63 (mi n) w λe w'=>e=ϰ (nv n)/\Below w w w':=by
 have r1:=ff n;have r2:=dO n;have e:nv n=φ #[ι υ (lo n % Me),ι υ (lo n / Me),ι υ (hi n % Me),ι υ (hi n / Me)]:=(iR ρa ρa ρa ρa (by unfold ai at hn;unfold hi lo;omega)).symm;rw[e];go_in;go_wp2;go_returns;exact⟨rfl,ρE⟩
theorem CZ (n:Int)(w:ϖ):
  CB 61 #[nv n] w (hi n):=by
 have r0:=dK n;have r1:=dL n;have r2:=dM n;have r3:=dN n;unfold CB;go_in;go_wp2;go_returns;exact⟨dP (by unfold iY gV hi;omega),ρE⟩
theorem Gu (n:Int)(w:ϖ):
  CB 62 #[nv n] w (lo n):=by
 have r0:=dK n;have r1:=dL n;have r2:=dM n;have r3:=dN n;unfold CB;go_in;go_wp2;go_returns;exact⟨dP (by unfold bX aV lo;omega),ρE⟩
theorem Gq (a b:Int)(w:ϖ)(ha:ai a)(hb:ai b):
  CB 94 #[nv a,nv b] w (χ #[nv (bp (a+b)),ι υ ((a+b) / 340282366920938463463374607431768211456)]):=by
 have r0:=dK a;have r1:=dL a;have r2:=dM a;have r3:=dN a;have s0:=dK b;have s1:=dL b;have s2:=dM b;have s3:=dN b;unfold CB;go_in;go_wp2;refine wp_loop_rounds 5 ?_
 iterate 4
  rw[cV];go_wp2;go_quiet (fail);go_wp2
 rw[cV];go_wp2;go_returns;have da:=DI ha;have db:=DI hb;refine⟨EZ (iR ρa ρa ρa ρa ?_) ?_,ρE⟩
 ·unfold bp;omega
 ·omega
theorem EW (a b:Int)(w:ϖ)(ha:ai a)(hb:ai b):
  CB 59 #[nv a,nv b] w (nv (bp (a+b))):=by
 unfold CB;go_in;go_wp2_with fail;refine(Gq a b _ ha hb).mono ?_;rintro e w1 ⟨rfl,IG⟩;have Jf:=IG.size;(try simp at Jf);obtain⟨Tr,hf1⟩:=DT IG
 try have z1:=Nat.lt_of_succ_le Jf
 have k1:=Tg w IG;have g1:=k1;clear IG k1;go_wp2;refine ZO (v:=nv (bp (a+b))) (by simp[results,Tryz.results59,go_sem,Tr,z1]) rfl ⟨rfl,ρE⟩
theorem Dc (a b:Int)(w:ϖ)(ha:ai a)(hb:ai b):
  CB 39 #[nv a,nv b] w (nv (bp (a - b))):=by
 have r0:=dK a;have r1:=dL a;have r2:=dM a;have r3:=dN a;have s0:=dK b;have s1:=dL b;have s2:=dM b;have s3:=dN b;unfold CB;go_in;go_wp2;refine wp_loop_rounds 5 ?_
 iterate 4
  rw[cV];go_wp2;go_quiet (fail);go_wp2
 rw[cV];go_wp2;go_returns;have da:=DI ha;have db:=DI hb;refine⟨kH (iR ρa ρa ρa ρa ?_),ρE⟩;unfold bp;omega
theorem xp (a b:Int)(w:ϖ)(ha:ai a)(hb:ai b):
  CB 23 #[nv a,nv b] w (β (decide (a<b))):=by
 have r0:=dK a;have r1:=dL a;have r2:=dM a;have r3:=dN a;have s0:=dK b;have s1:=dL b;have s2:=dM b;have s3:=dN b;have da:=ag (DI ha);have db:=ag (DI hb);unfold CB;go_in;go_wp2;refine wp_loop_rounds 5 ?_;rw[cV];go_wp2;go_quiet (fail);go_wp2
 ·exact ξ1
 rw[cV];go_wp2;go_quiet (fail);go_wp2
 ·exact ξ1
 rw[cV];go_wp2;go_quiet (fail);go_wp2
 ·exact ξ1
 rw[cV];go_wp2;go_quiet (fail);go_wp2
 ·exact ξ1
 rw[cV];go_wp2;go_ret;have da':=da.out;have db':=db.out;exact⟨Fb (by symm;rw[decide_eq_false_iff_not];simp at*;omega),ρE⟩
theorem fl {va vb:ϗ} {a b c:Int} (h:va=nv a)(h':vb=nv b)(w:ϖ)(ha:ai a)(hb:ai b)(hs:a+b=c)(hc:ai c):
  CB 59 #[va,vb] w (nv c):=by
 subst h h' hs;have:=EW a b w ha hb;rw[iJ hc] at this;exact this
theorem Gv (x y:Int)(w:ϖ)(hx:0<=x)(Vq:x<=Ma)(hy:0<=y)(hy':y<=Ma):
  CB 38 #[x,y] w (nv (x*y)):=by
 have r0:=dK x;have r1:=dL x;have r2:=dM x;have r3:=dN x;have s0:=dK y;have s1:=dL y;have s2:=dM y;have s3:=dN y;have p1:=fG _ _ r0 s0;have p2:=fG _ _ r0 s1;have p3:=fG _ _ r1 s0;have p4:=fG _ _ r1 s1;have p0:=jN x y hx Vq hy hy';have hp:aV x*aV y+aV x*bX y*Me+bX x*aV y*Me+bX x*bX y*Mf=x*y:=by
  have e1:bX x=x / Me:=by unfold bX;omega
  have e2:bX y=y / Me:=by unfold bX;omega
  rw[mZ x y,e1,e2];unfold aV;omega
 have Hp:=ag hp;clear hp;unfold CB;go_in;go_wp2_with fail;refine(AD x _ hx Vq).mono ?_;rintro e w1 ⟨rfl,IG⟩;have A1:ah w1 w fD 70:=Zv IG;refine η2 ?_;intro g1 Jf;clear IG;have rA:=A1.r;go_wp2_with fail;refine(AD y _ hy hy').mono ?_;rintro e w2 ⟨rfl,IW⟩;have A2:=A1.tr IW;have B2:ah w2 w1 (bv x) 70:=Zv IW;refine η9 ?_;intro g2 Jr;clear IW rA;have rA:=A2.r;have Rr:=B2.r;have l1:w.heap.size<w1:=ρa;have l2:w1.heap.size<w2:=ρa;go_wp2;refine wp_loop_rounds 3 ?_;rw[cV];go_wp2;refine wp_loop_rounds 3 ?_;refine cj (λv=>Below w w v/\ah v w fD 70/\ah v w1 (bv x) 70/\ah v w2 (bv y) 70/\ah v (w2+1) fD 70) ⟨ρE,ρB,ρB,ρB,ρB⟩ ?_;clear rA;rintro w3 ⟨g3,A3,B3,C3,D3⟩;have rA:=A3.r;have Ss:=θ3 B3.r C3.r D3.r;rw[cV];go_wp2;go_quiet (fail);go_wp2_with fail;refine(fl (a:=0) (b:=aV x*aV y) (c:=aV x*aV y) (iR ρa ρa ρa ρa ρa) (iR ρa ρa ρa ρa ρa) _ ρx ρx ρa ρx).mono ?_;rintro e u3 ⟨rfl,JJ⟩;have A3':ah u3 w fD 70:=Zv JJ;have B3':ah u3 w1 (bv x) 70:=Zv JJ;have C3':ah u3 w2 (bv y) 70:=Zv JJ;have D3':ah u3 (w2+1) fD 70:=Zv JJ;have g3':=Tg w JJ;have hz3':=JJ.size;(try simp at hz3');clear JJ rA;have rA:=A3'.r;replace Ss:=θ3 B3'.r C3'.r D3'.r;go_wp2;refine cj (λv=>Below w w v/\ah v w fD 70/\ah v w1 (bv x) 70/\ah v w2 (bv y) 70/\ah v (w2+1) (bv (aV x*aV y)) 70) ⟨ρE,ρB,ρB,ρB,ρB⟩ ?_;clear rA;rintro w4 ⟨g4,A4,B4,C4,D4⟩;have rA:=A4.r;replace Ss:=θ3 B4.r C4.r D4.r;rw[cV];go_wp2;go_quiet (fail);go_wp2_with fail;refine(fl (a:=aV x*aV y) (b:=aV x*bX y*Me) (c:=aV x*aV y+aV x*bX y*Me) rfl (iR ρa ρa ρa ρa ρa) _ ρx ρx ρa ρx).mono ?_;rintro e u4 ⟨rfl,Ls⟩;have A4':ah u4 w fD 70:=Zv Ls;have B4':ah u4 w1 (bv x) 70:=Zv Ls;have C4':ah u4 w2 (bv y) 70:=Zv Ls;have D4':ah u4 (w2+1) (bv (aV x*aV y)) 70:=Zv Ls;have g4':=Tg w Ls;have hz4':=Ls.size;(try simp at hz4');clear Ls rA;have rA:=A4'.r;replace Ss:=θ3 B4'.r C4'.r D4'.r;go_wp2;rw[cV];go_wp2;rw[cV];go_wp2;refine wp_loop_rounds 3 ?_;refine cj (λv=>Below w w v/\ah v w fD 70/\ah v w1 (bv x) 70/\ah v w2 (bv y) 70/\ah v (w2+1) (bv (aV x*aV y+aV x*bX y*Me)) 70) ⟨ρE,ρB,ρB,ρB,ρB⟩ ?_;clear rA;rintro w5 ⟨g5,A5,B5,C5,D5⟩;have rA:=A5.r;replace Ss:=θ3 B5.r C5.r D5.r;rw[cV];go_wp2;go_quiet (fail);go_wp2_with fail;refine(fl (a:=aV x*aV y+aV x*bX y*Me) (b:=bX x*aV y*Me) (c:=aV x*aV y+aV x*bX y*Me+bX x*aV y*Me) rfl (iR ρa ρa ρa ρa ρa) _ ρx ρx ρa ρx).mono ?_;rintro e u5 ⟨rfl,JF⟩;have A5':ah u5 w fD 70:=Zv JF;have B5':ah u5 w1 (bv x) 70:=Zv JF;have C5':ah u5 w2 (bv y) 70:=Zv JF;have D5':ah u5 (w2+1) (bv (aV x*aV y+aV x*bX y*Me)) 70:=Zv JF;have g5':=Tg w JF;have hz5':=JF.size;(try simp at hz5');clear JF rA;have rA:=A5'.r;replace Ss:=θ3 B5'.r C5'.r D5'.r;go_wp2;refine cj (λv=>Below w w v/\ah v w fD 70/\ah v w1 (bv x) 70/\ah v w2 (bv y) 70/\ah v (w2+1) (bv (aV x*aV y+aV x*bX y*Me+bX x*aV y*Me)) 70) ⟨ρE,ρB,ρB,ρB,ρB⟩ ?_;clear rA;rintro w6 ⟨g6,A6,B6,C6,D6⟩;have rA:=A6.r;replace Ss:=θ3 B6.r C6.r D6.r;rw[cV];go_wp2;go_quiet (fail);go_wp2_with fail;refine(fl (a:=aV x*aV y+aV x*bX y*Me+bX x*aV y*Me) (b:=bX x*bX y*Mf) (c:=x*y) rfl (iR ρa ρa ρa ρa ρa) _ ρx ρx Hp.out ρx).mono ?_;rintro e u6 ⟨rfl,PC⟩;have A6':ah u6 w fD 70:=Zv PC;have B6':ah u6 w1 (bv x) 70:=Zv PC;have C6':ah u6 w2 (bv y) 70:=Zv PC;have D6':ah u6 (w2+1) (bv (aV x*aV y+aV x*bX y*Me+bX x*aV y*Me)) 70:=Zv PC;have g6':=Tg w PC;have hz6':=PC.size;(try simp at hz6');clear PC rA;have rA:=A6'.r;replace Ss:=θ3 B6'.r C6'.r D6'.r;go_wp2;rw[cV];go_wp2;rw[cV];go_wp2;refine ZO (v:=nv (x*y)) (by simp[results,Tryz.results38,go_sem,rA.1]) rfl ⟨rfl,ρE⟩
theorem sM (a b c:Int)(w:ϖ)(ha:ai a)(hb:0<=b/\b<=1)(hc:a+a+b=c)(Jj:ai c):
  CB 92 #[nv a,b] w (nv c):=by
 have h2:ai (a+a):=by unfold ai at*;omega
 unfold CB;go_in;go_wp2_with fail;refine(fl (a:=a) (b:=a) (c:=a+a) rfl rfl _ ha ha rfl h2).mono ?_;rintro e w1 ⟨rfl,IG⟩;have R1:ah w1 (w+1) fD 70:=Zv IG;refine η2 ?_;intro g1 Jf;clear IG;replace rR:=R1.r;go_wp2_with fail;refine(AD b _ ρa ρa).mono ?_;rintro e w2 ⟨rfl,IW⟩;have R2:=R1.tr IW;refine η9 ?_;intro g2 Jr;clear IW;replace rR:=R2.r;go_wp2_with fail;refine(fl (a:=a+a) (b:=b) (c:=c) rfl rfl _ h2 ρx hc Jj).mono ?_;rintro e w3 ⟨rfl,JJ⟩;have R3:=R2.tr JJ;have g3:=Tg w JJ;have LD:=JJ.size;(try simp at LD);clear JJ;replace rR:=R3.r;go_wp2;refine ZO (v:=nv c) (by simp[results,Tryz.results92,go_sem,rR.1]) rfl ⟨rfl,ρE⟩
theorem EC (a:Int)(i:Nat)(w:ϖ)(h0:0<=i)(h1:i<=31):
  CB 93 #[nv a,ι ε i] w (ι υ (aV a / 2 ^ i % 2)):=by
 have r0:=dK a;have hidx:((i:Nat):Int) / 32=0:=ρa;have hmod:((i:Nat):Int) % 32=(i:Int):=ρa;unfold CB;go_in;go_wp2;go_loop [5,12] (λv c=>∃k:Nat,k<=i/\c=ι ε k/\v=ι υ (aV a / 2 ^ k)) (λ_ c=>i - (intOf c).toNat);case atStart=>exact ηW
 case round=>
  obtain⟨k,hk,rfl,rfl⟩:=hrel;have hr:0<=aV a / 2 ^ k/\aV a / 2 ^ k<=Md:=ξB
  have hs:=ag (show aV a / 2 ^ (k+1)=aV a / 2 ^ k / 2 by rw[Int.pow_succ,Int.ediv_ediv_of_nonneg τg]);by_cases IJ:k<i
  ·go_wp2;go_round;case rel=>exact⟨k+1,by omega,by go_num,by rw[hs.out]⟩
   case measure=>simp[intOf];omega
  ·obtain rfl:k=i:=by omega
   go_wp2;go_ret;exact⟨rfl,ρE⟩
theorem ED (a:Int)(i:Nat)(w:ϖ)(h0:32<=i)(h1:i<=63):
  CB 93 #[nv a,ι ε i] w (ι υ (bX a / 2 ^ (i - 32) % 2)):=by
 have r0:=dL a;have hidx:((i:Nat):Int) / 32=1:=ρa;obtain⟨m,hm⟩:∃m:Nat,m=(i - 32):=⟨_,rfl⟩;have hmod:((i:Nat):Int) % 32=(m:Int):=ρa;have hb:0<=(i:Int)/\(i:Int)<=127:=ρa;rw[<- hm];have Wm:m<=31:=ρa;clear hm h0 h1;unfold CB;go_in;go_wp2;go_loop [5,12] (λv c=>∃k:Nat,k<=m/\c=ι ε k/\v=ι υ (bX a / 2 ^ k)) (λ_ c=>m - (intOf c).toNat);case atStart=>exact ηW
 case round=>
  obtain⟨k,hk,rfl,rfl⟩:=hrel;have hr:0<=bX a / 2 ^ k/\bX a / 2 ^ k<=Md:=ξB
  have hs:=ag (show bX a / 2 ^ (k+1)=bX a / 2 ^ k / 2 by rw[Int.pow_succ,Int.ediv_ediv_of_nonneg τg]);exact ξw
theorem EG (a:Int)(i:Nat)(w:ϖ)(h0:64<=i)(h1:i<=95):
  CB 93 #[nv a,ι ε i] w (ι υ (gV a / 2 ^ (i - 64) % 2)):=by
 have r0:=dM a;have hidx:((i:Nat):Int) / 32=2:=ρa;obtain⟨m,hm⟩:∃m:Nat,m=(i - 64):=⟨_,rfl⟩;have hmod:((i:Nat):Int) % 32=(m:Int):=ρa;have hb:0<=(i:Int)/\(i:Int)<=127:=ρa;rw[<- hm];have Wm:m<=31:=ρa;clear hm h0 h1;unfold CB;go_in;go_wp2;go_loop [5,12] (λv c=>∃k:Nat,k<=m/\c=ι ε k/\v=ι υ (gV a / 2 ^ k)) (λ_ c=>m - (intOf c).toNat);case atStart=>exact ηW
 case round=>
  obtain⟨k,hk,rfl,rfl⟩:=hrel;have hr:0<=gV a / 2 ^ k/\gV a / 2 ^ k<=Md:=ξB
  have hs:=ag (show gV a / 2 ^ (k+1)=gV a / 2 ^ k / 2 by rw[Int.pow_succ,Int.ediv_ediv_of_nonneg τg]);exact ξw
theorem EH (a:Int)(i:Nat)(w:ϖ)(h0:96<=i)(h1:i<=127):
  CB 93 #[nv a,ι ε i] w (ι υ (iY a / 2 ^ (i - 96) % 2)):=by
 have r0:=dN a;have hidx:((i:Nat):Int) / 32=3:=ρa;obtain⟨m,hm⟩:∃m:Nat,m=(i - 96):=⟨_,rfl⟩;have hmod:((i:Nat):Int) % 32=(m:Int):=ρa;have hb:0<=(i:Int)/\(i:Int)<=127:=ρa;rw[<- hm];have Wm:m<=31:=ρa;clear hm h0 h1;unfold CB;go_in;go_wp2;go_loop [5,12] (λv c=>∃k:Nat,k<=m/\c=ι ε k/\v=ι υ (iY a / 2 ^ k)) (λ_ c=>m - (intOf c).toNat);case atStart=>exact ηW
 case round=>
  obtain⟨k,hk,rfl,rfl⟩:=hrel;have hr:0<=iY a / 2 ^ k/\iY a / 2 ^ k<=Md:=ξB
  have hs:=ag (show iY a / 2 ^ (k+1)=iY a / 2 ^ k / 2 by rw[Int.pow_succ,Int.ediv_ediv_of_nonneg τg]);exact ξw
def iW (a:Int)(n:Nat):Int:=a / 2 ^ n % 2
theorem zK (x m:Nat)(h:m<=31):x % Me / 2 ^ m % 2=x / 2 ^ m % 2:=by
 have e:4294967296=2 ^ m*2 ^ (32 - m):=by rw[<- Nat.pow_add,show m+(32 - m)=32 by omega]
 rw[e,Nat.mod_mul_right_div_self,Nat.mod_mod_of_dvd];exact Nat.dvd_trans (show 2∣2 ^ 1 by decide) (Nat.pow_dvd_pow 2 ρa)
theorem nQ (a:Int)(ha:0<=a)(j m:Nat)(h:m<=31):a / 2 ^ (32*j) % Me / 2 ^ m % 2=iW a (32*j+m):=by obtain⟨x,rfl⟩:=Int.eq_ofNat_of_zero_le ha;have h1:=zK (x / 2 ^ (32*j)) m h;rw[Nat.div_div_eq_div_mul,<- Nat.pow_add] at h1;unfold iW;have c1:((x:Int) / 2 ^ (32*j) % Me / 2 ^ m % 2)=((x / 2 ^ (32*j) % Me / 2 ^ m % 2:Nat):Int):=ρp;have c2:((x:Int) / 2 ^ (32*j+m) % 2)=((x / 2 ^ (32*j+m) % 2:Nat):Int):=ρp;rw[c1,c2,h1]
theorem Gr (a:Int)(i:Nat)(w:ϖ)(ha:ai a)(h:i<=127):
  CB 93 #[nv a,ι ε i] w (iW a i):=by
 rcases Nat.lt_or_ge i 32 with h0|h0
 ·have:=EC a i w ρa ρa;rw[show aV a=a / 2 ^ (32*0) % Me by simp[aV],nQ a ha.1 0 i ρa] at this;simpa using this
 ·rcases Nat.lt_or_ge i 64 with h1|h1
  ·have:=ED a i w ρa ρa;rw[show bX a=a / 2 ^ (32*1) % Me by simp[bX],nQ a ha.1 1 (i - 32) ρa,show 32*1+(i - 32)=i by omega] at this;exact this
  ·rcases Nat.lt_or_ge i 96 with h2|h2
   ·have:=EG a i w ρa ρa;rw[show gV a=a / 2 ^ (32*2) % Me by simp[gV],nQ a ha.1 2 (i - 64) ρa,show 32*2+(i - 64)=i by omega] at this;exact this
   ·have:=EH a i w ρa ρa;rw[show iY a=a / 2 ^ (32*3) % Me by simp[iY],nQ a ha.1 3 (i - 96) ρa,show 32*3+(i - 96)=i by omega] at this;exact this
def rx (a b:Int)(k:Nat)(q r:Int):Prop:=0<=q/\0<=r/\r<b/\q*b+r=a / 2 ^ (128 - k)/\k<=128
theorem EI (a i:Int)(j:Nat)(w:ϖ)(ha:ai a)(hj:j<=127)(hi:i=(j:Int)):
  CB 93 #[nv a,ι ε i] w (iW a j):=by subst hi;exact Gr a j w ha hj
theorem ud (a b c:Int)(w:ϖ)(ha:ai a)(hb:ai b)(hc:bp (a - b)=c):
  CB 39 #[nv a,nv b] w (nv c):=by subst hc;exact Dc a b w ha hb
theorem sL (n c:Int)(w:ϖ)(hc:lo n=c):
  CB 62 #[nv n] w c:=by subst hc;exact Gu n w
theorem jF {P:Program} {f:Func} {Q:Ending->ϖ->Prop} {x:Exit} {a:Act} {W:ϖ} (F:ϖ->Prop)(h:F W)(k:∀v,F v->bodyPost P f Q x a v):bodyPost P f Q x a W:=k W h
theorem lc (a:Int)(j:Nat):0<=iW a j/\iW a j<=1:=by unfold iW;omega
theorem qj {a b q r:Int} {k j:Nat} (h:rx a b k q r)(hj:j+k=127):(q+q)*b+(r+r+iW a j)=a / 2 ^ (128 - (k+1)):=by obtain⟨_,_,_,h4,_⟩:=h;rw[show 128 - (k+1)=j by omega];rw[show 128 - k=j+1 by omega,Int.pow_succ,<- Int.ediv_ediv_of_nonneg τg] at h4;unfold iW;generalize a / 2 ^ j=x at*;rw[Int.add_mul];omega
theorem wC {a:Int} (ha:ai a)(n:Nat):a / 2 ^ n<=a/\0<=a / 2 ^ n:=by have hp:(0:Int)<2 ^ n:=Int.pow_pos ρa;exact⟨Int.ediv_le_self _ ha.1,Int.ediv_nonneg ha.1 ρa⟩
theorem EB {q b x:Int} (hq:0<=q)(hb:1<=b)(h:q*b<=x):q<=x:=by have:=ZU hb hq;omega
theorem xl {a b q r:Int} {k j:Nat} (ha:ai a)(hb:1<=b)(h:rx a b k q r)(hj:j+k=127)(hl:r+r+iW a j<b):rx a b (k+1) (q+q) (r+r+iW a j)/\ai (q+q):=by have hs:=qj h hj;obtain⟨h1,h2,h3,_,_⟩:=h;have hr:=lc a j;have hd:=wC ha (128 - (k+1));have hq:=EB (q:=q+q) (b:=b) (x:=a / 2 ^ (128 - (k+1))) ρa hb ρa;exact⟨⟨by omega,by omega,hl,hs,by omega⟩,by omega,by have:=ha.2;omega⟩
theorem xm {a b q r:Int} {k j:Nat} (ha:ai a)(hb:1<=b)(h:rx a b k q r)(hj:j+k=127)(hl:¬r+r+iW a j<b):rx a b (k+1) (q+q+1) (r+r+iW a j - b)/\ai (q+q+1):=by
 have hs:=qj h hj;obtain⟨h1,h2,h3,_,_⟩:=h;have hr:=lc a j;have hd:=wC ha (128 - (k+1));have e:(q+q+1)*b=(q+q)*b+b:=by rw[Int.add_mul (q+q) 1 b,Int.one_mul]
 have hq:=EB (q:=q+q+1) (b:=b) (x:=a / 2 ^ (128 - (k+1))) ρa hb ρa;exact⟨⟨by omega,by omega,by omega,by omega,by omega⟩,by omega,by have:=ha.2;omega⟩
theorem An {a b q r:Int} (hb:1<=b)(h:rx a b 128 q r):q=a / b/\r=a % b:=by obtain⟨_,h1,h2,h3,_⟩:=h;simp at h3;have:=(Int.ediv_emod_unique (show 0<b by omega) (a:=a) (r:=r) (q:=q)).2 ⟨by rw[Int.mul_comm];omega,h1,h2⟩;exact⟨this.1.symm,this.2.symm⟩
theorem vm {a b:Int} (ha:ai a):a / 2 ^ (128 - 0)=0*b+0:=by have e:(2:Int) ^ (128 - 0)=340282366920938463463374607431768211456:=ρf;rw[e];have:=ha.1;have:=ha.2;omega
theorem vn (a b:Int)(w:ϖ)(ha:ai a)(hb:1<=b)(f':b<=Ma):
  CB 58 #[nv a,b] w (χ #[nv (a / b),ι υ (a % b)]):=by
 unfold CB;go_in;go_wp2;go_loopw [11] (λi wr=>∃(k:Nat) (q r:Int),rx a b k q r/\i=ι ε k/\Below w w wr/\ah wr w (bv a) 70/\ah wr (w+1) fD 70/\ah wr (w+1+1) (bv q) 70/\ah wr (w+1+1+1) (bv r) 70) (λi _=>128 - (intOf i).toNat);case atStart=>exact⟨0,0,0,⟨by omega,by omega,by omega,(vm ha).symm,by omega⟩,rfl,ρE,ρB,ρB,(show ah _ _ fD _ from ρB),(show ah _ _ fD _ from ρB)⟩
 case round=>
  obtain⟨k,q,r,hrel,rfl,g0,A0,R0,Q0,S0⟩:=hrel;by_cases IJ:k<128
  ·have cA:=A0.cell;have cR:=R0.cell;have cQ:=Q0.cell;have cS:=S0.cell;have fA:=A0.frozen;have fR:=R0.frozen;have fQ:=Q0.frozen;have fS:=S0.frozen;have zA:=A0.size;have zR:=R0.size;have zQ:=Q0.size;have zS:=S0.size;obtain⟨j,hj⟩:∃j:Nat,j+k=127:=⟨127 - k,by omega⟩;have XY:=ag hj;have hjk:(127:Int) - (k:Int)<=(j:Int)/\(j:Int)<=127 - (k:Int):=ρa;have Un:j<=127:=ρa;have Hkw:=ag (show IntKind.i64.wrap (127 - (k:Int))=(j:Int) by rw[IntWalk.i64_in _ ρa];omega);clear hj;have hd:=dt ((k:Int)<128);obtain⟨r2,Nd⟩:=Nq (r+r+iW a j);have Hr2:=ag Nd;clear Nd;have hbit:=lc a j;have Uv:ai r/\ai r2:=by obtain⟨_,h1,h2,_⟩:=hrel;have:=Hr2.out;unfold ai;omega
   have VD:=ag hrel;clear hrel;go_upto_region 6 with (fail);go_cut [11] (λi wx=>i=ι ε k/\Below w w wx/\ah wx w (bv a) 70/\ah wx (w+1) fD 70/\ah wx (w+1+1) (bv q) 70/\ah wx (w+1+1+1) (bv r2) 70);case first=>
    go_region_with (first
      | (go_at_call 93;(with_reducible refine(EI a _ j _ ha Un (by first | exact Hkw.out | omega)).mono ?_);refine bo ?_;intro w' f' IZ IY;have IP:ah w' w (bv a) 70:=Zv f';have cA:=IP.cell;have fA:=IP.frozen;have zA:=IP.size;have Ji:ah w' (w+1) fD 70:=Zv f';have cR:=Ji.cell;have fR:=Ji.frozen;have zR:=Ji.size;have J8:ah w' (w+1+1) (bv q) 70:=Zv f';have cQ:=J8.cell;have fQ:=J8.frozen;have zQ:=J8.size;have Lu:ah w' (w+1+1+1) (bv r) 70:=Zv f';have cS:=Lu.cell;have fS:=Lu.frozen;have zS:=Lu.size;clear f')
      | (go_at_call 92;(with_reducible refine(sM r (iW a j) r2 _ Uv.1 hbit Hr2.out Uv.2).mono ?_);refine bo ?_;intro w' f' IZ IY;have IP:ah w' w (bv a) 70:=Zv f';have cA:=IP.cell;have fA:=IP.frozen;have zA:=IP.size;have Ji:ah w' (w+1) fD 70:=Zv f';have cR:=Ji.cell;have fR:=Ji.frozen;have zR:=Ji.size;have J8:ah w' (w+1+1) (bv q) 70:=Zv f';have cQ:=J8.cell;have fQ:=J8.frozen;have zQ:=J8.size;have Lu:ah w' (w+1+1+1) (bv r) 70:=Zv f';have cS:=Lu.cell;have fS:=Lu.frozen;have zS:=Lu.size;clear f'))
    all_goals
     go_wp2;go_meet;exact⟨rfl,ρE,ρB,ρB,ρB,ρB⟩
   case rest=>
    clear cA cR cQ cS fA fR fQ fS zA zR zQ zS A0 R0 Q0 S0 g0;obtain⟨rfl,g1,A1,R1,Q1,S1⟩:=hcut;have cA:=A1.cell;have cR:=R1.cell;have cQ:=Q1.cell;have cS:=S1.cell;have fA:=A1.frozen;have fR:=R1.frozen;have fQ:=Q1.frozen;have fS:=S1.frozen;have zA:=A1.size;have zR:=R1.size;have zQ:=Q1.size;have zS:=S1.size;have Uj:ai b:=ρx;by_cases hl:r2<b
    ·have dl:=ZT hl;have hq:=xl ha hb VD.out XY.out (by rw[Hr2.out];exact hl);rw[Hr2.out] at hq;have Hq:=ag hq;clear hq;have PJ:ai q/\ai (q+q):=by have:=Hq.out.2;obtain⟨h1,_⟩:=VD.out;unfold ai at*;omega
     go_wp2_with fail;go_region_held3 (λv=>(∀i,v.cell? ⟨w,i,none⟩=(bv a)[i]?)/\w.heap.size<v/\ah v w (bv a) 70/\(∀i,v.cell? ⟨w+1,i,none⟩=fD[i]?)/\w.heap.size+1<v/\ah v (w+1) fD 70/\(∀i,v.cell? ⟨w+1+1,i,none⟩=(bv q)[i]?)/\w.heap.size+1+1<v/\ah v (w+1+1) (bv q) 70/\(∀i,v.cell? ⟨w+1+1+1,i,none⟩=(bv r2)[i]?)/\w.heap.size+1+1+1<v/\ah v (w+1+1+1) (bv r2) 70/\Below w w v)
      (first
       | (refine⟨?_,?_,?_,?_,?_,?_,?_,?_,?_,?_,?_,?_,?_⟩<;>first | (with_reducible assumption) | ((repeat' (first | (with_reducible (first | assumption | exact ah.alloc_new _ _ _ ρ4 | apply ah.drewN | apply ah.drew | apply ah.alloc_old | apply ah.set_same | apply ah.set_other)) | (show (_:Nat)≠_;first | omega | (simp;done) | (simp;omega)) | ((simp only[List.setIfInBounds_toArray,List.set_cons_succ,List.set_cons_zero]);(with_reducible exact rfl)) | (with_reducible exact rfl) | (show (_:Array ϗ)=_;exact rfl)));done) | ((repeat' (first | (with_reducible (first | exact Below.refl _ _ | assumption | refine below_drewN ?_ _ | refine Below.drew ?_ | refine Below.alloc ?_ ?_ _ | refine Below.setCell ?_ ?_ _)) | go_size));done) | omega | (go_simp;done) | (simp;done) | (exact ah.cell ρB)))
      (first
       | (go_at_call 60;(with_reducible refine(AD b _ ρa f').mono ?_);refine bo ?_;intro w' f' IZ IY;have IP:ah w' w (bv a) 70:=Zv f';have hqA:=IP.cell;have hzA:=IP.size;have Ji:ah w' (w+1) fD 70:=Zv f';have hqR:=Ji.cell;have hzR:=Ji.size;have J8:ah w' (w+1+1) (bv q) 70:=Zv f';have hqQ:=J8.cell;have hzQ:=J8.size;have Lu:ah w' (w+1+1+1) (bv r2) 70:=Zv f';have hqS:=Lu.cell;have hzS:=Lu.size;clear f')
       | (go_at_call 23;(with_reducible refine(xp r2 b _ Uv.2 Uj).mono ?_);refine bo ?_;intro w' f' IZ IY;have IP:ah w' w (bv a) 70:=Zv f';have hqA:=IP.cell;have hzA:=IP.size;have Ji:ah w' (w+1) fD 70:=Zv f';have hqR:=Ji.cell;have hzR:=Ji.size;have J8:ah w' (w+1+1) (bv q) 70:=Zv f';have hqQ:=J8.cell;have hzQ:=J8.size;have Lu:ah w' (w+1+1+1) (bv r2) 70:=Zv f';have hqS:=Lu.cell;have hzS:=Lu.size;clear f'))
     all_goals
      go_wp2_with fail;refine(sM q 0 (q+q) _ PJ.1 ρa ρa PJ.2).mono ?_;rintro e w5 ⟨rfl,JF⟩;have A5:ah w5 w (bv a) 70:=Zv JF;have R5:ah w5 (w+1) fD 70:=Zv JF;have Q5:ah w5 (w+1+1) (bv q) 70:=Zv JF;have S5:ah w5 (w+1+1+1) (bv r2) 70:=Zv JF;have g5:=Tg w JF;have QZ:=JF.size;(try simp at QZ);clear JF;replace cA:=A5.cell;replace fA:=A5.frozen;replace zA:=A5.size;replace cR:=R5.cell;replace fR:=R5.frozen;replace zR:=R5.size;replace cQ:=Q5.cell;replace fQ:=Q5.frozen;replace zQ:=Q5.size;replace cS:=S5.cell;replace fS:=S5.frozen;replace zS:=S5.size;go_wp2;go_roundw;case rel=>first|exact⟨k+1,q+q,r2,Hq.out.1,by go_num,ρE,ρB,ρB,ρB,ρB⟩|((repeat apply Exists.intro);exact⟨⟨k+1,q+q,r2,Hq.out.1,by go_num,ρE,ρB,ρB,ρB,ρB⟩,rfl⟩)
      case measure=>simp[intOf];omega
    ·have dl:=ZF hl;have hq:=xm ha hb VD.out XY.out (by rw[Hr2.out];exact hl);rw[Hr2.out] at hq;have Hq:=ag hq;clear hq;have PJ:ai q/\ai (q+q+1):=by have:=Hq.out.2;obtain⟨h1,_⟩:=VD.out;unfold ai at*;omega
     have hm:=ag (show bp (r2 - b)=r2 - b from iJ (by obtain⟨h1,h2⟩:=Uv.2;unfold ai;omega));go_wp2_with fail;go_region_held3 (λv=>(∀i,v.cell? ⟨w,i,none⟩=(bv a)[i]?)/\w.heap.size<v/\ah v w (bv a) 70/\(∀i,v.cell? ⟨w+1,i,none⟩=fD[i]?)/\w.heap.size+1<v/\ah v (w+1) fD 70/\(∀i,v.cell? ⟨w+1+1,i,none⟩=(bv q)[i]?)/\w.heap.size+1+1<v/\ah v (w+1+1) (bv q) 70/\(∀i,v.cell? ⟨w+1+1+1,i,none⟩=(bv r2)[i]?)/\w.heap.size+1+1+1<v/\ah v (w+1+1+1) (bv r2) 70/\Below w w v)
      (first
       | (refine⟨?_,?_,?_,?_,?_,?_,?_,?_,?_,?_,?_,?_,?_⟩<;>first | (with_reducible assumption) | ((repeat' (first | (with_reducible (first | assumption | exact ah.alloc_new _ _ _ ρ4 | apply ah.drewN | apply ah.drew | apply ah.alloc_old | apply ah.set_same | apply ah.set_other)) | (show (_:Nat)≠_;first | omega | (simp;done) | (simp;omega)) | ((simp only[List.setIfInBounds_toArray,List.set_cons_succ,List.set_cons_zero]);(with_reducible exact rfl)) | (with_reducible exact rfl) | (show (_:Array ϗ)=_;exact rfl)));done) | ((repeat' (first | (with_reducible (first | exact Below.refl _ _ | assumption | refine below_drewN ?_ _ | refine Below.drew ?_ | refine Below.alloc ?_ ?_ _ | refine Below.setCell ?_ ?_ _)) | go_size));done) | omega | (go_simp;done) | (simp;done) | (exact ah.cell ρB)))
      (first
       | (go_at_call 60;(with_reducible refine(AD b _ ρa f').mono ?_);refine bo ?_;intro w' f' IZ IY;have IP:ah w' w (bv a) 70:=Zv f';have hqA:=IP.cell;have hzA:=IP.size;have Ji:ah w' (w+1) fD 70:=Zv f';have hqR:=Ji.cell;have hzR:=Ji.size;have J8:ah w' (w+1+1) (bv q) 70:=Zv f';have hqQ:=J8.cell;have hzQ:=J8.size;have Lu:ah w' (w+1+1+1) (bv r2) 70:=Zv f';have hqS:=Lu.cell;have hzS:=Lu.size;clear f')
       | (go_at_call 23;(with_reducible refine(xp r2 b _ Uv.2 Uj).mono ?_);refine bo ?_;intro w' f' IZ IY;have IP:ah w' w (bv a) 70:=Zv f';have hqA:=IP.cell;have hzA:=IP.size;have Ji:ah w' (w+1) fD 70:=Zv f';have hqR:=Ji.cell;have hzR:=Ji.size;have J8:ah w' (w+1+1) (bv q) 70:=Zv f';have hqQ:=J8.cell;have hzQ:=J8.size;have Lu:ah w' (w+1+1+1) (bv r2) 70:=Zv f';have hqS:=Lu.cell;have hzS:=Lu.size;clear f'))
     all_goals
      go_wp2_with fail;go_region_with (first
        | (go_at_call 60;(with_reducible refine(AD b _ ρa f').mono ?_);refine bo ?_;intro w' f' IZ IY;have IP:ah w' w (bv a) 70:=Zv f';have cA:=IP.cell;have fA:=IP.frozen;have zA:=IP.size;have Ji:ah w' (w+1) fD 70:=Zv f';have cR:=Ji.cell;have fR:=Ji.frozen;have zR:=Ji.size;have J8:ah w' (w+1+1) (bv q) 70:=Zv f';have cQ:=J8.cell;have fQ:=J8.frozen;have zQ:=J8.size;have Lu:ah w' (w+1+1+1) (bv r2) 70:=Zv f';have cS:=Lu.cell;have fS:=Lu.frozen;have zS:=Lu.size;clear f')
        | (go_at_call 39;(with_reducible refine(ud r2 b (r2 - b) _ Uv.2 Uj hm.out).mono ?_);refine bo ?_;intro w' f' IZ IY;have IP:ah w' w (bv a) 70:=Zv f';have cA:=IP.cell;have fA:=IP.frozen;have zA:=IP.size;have Ji:ah w' (w+1) fD 70:=Zv f';have cR:=Ji.cell;have fR:=Ji.frozen;have zR:=Ji.size;have J8:ah w' (w+1+1) (bv q) 70:=Zv f';have cQ:=J8.cell;have fQ:=J8.frozen;have zQ:=J8.size;have Lu:ah w' (w+1+1+1) (bv r2) 70:=Zv f';have cS:=Lu.cell;have fS:=Lu.frozen;have zS:=Lu.size;clear f'))
      all_goals
       go_wp2_with fail;refine(sM q 1 (q+q+1) _ PJ.1 ρa ρa PJ.2).mono ?_;rintro e w5 ⟨rfl,JF⟩;have A5:ah w5 w (bv a) 70:=Zv JF;have R5:ah w5 (w+1) fD 70:=Zv JF;have Q5:ah w5 (w+1+1) (bv q) 70:=Zv JF;have S5:ah w5 (w+1+1+1) (bv ((r2 - b))) 70:=Zv JF;have g5:=Tg w JF;have QZ:=JF.size;(try simp at QZ);clear JF;replace cA:=A5.cell;replace fA:=A5.frozen;replace zA:=A5.size;replace cR:=R5.cell;replace fR:=R5.frozen;replace zR:=R5.size;replace cQ:=Q5.cell;replace fQ:=Q5.frozen;replace zQ:=Q5.size;replace cS:=S5.cell;replace fS:=S5.frozen;replace zS:=S5.size;go_wp2;go_roundw;case rel=>first|exact⟨k+1,q+q+1,r2 - b,Hq.out.1,by go_num,ρE,ρB,ρB,ρB,ρB⟩|((repeat apply Exists.intro);exact⟨⟨k+1,q+q+1,r2 - b,Hq.out.1,by go_num,ρE,ρB,ρB,ρB,ρB⟩,rfl⟩)
       case measure=>simp[intOf];omega
  ·have hk:k=128:=by obtain⟨_,_,_,_,h5⟩:=hrel;omega
   obtain rfl:=hk;have hq:=An hb hrel;have Uo:=ag (show lo r=r by obtain⟨_,h1,h2,_⟩:=hrel;unfold lo;omega);have e1:=ag hq.1;have e2:=ag hq.2;clear hq hrel IJ;have cA:=A0.cell;have cR:=R0.cell;have cQ:=Q0.cell;have cS:=S0.cell;have fA:=A0.frozen;have fR:=R0.frozen;have fQ:=Q0.frozen;have fS:=S0.frozen;have zA:=A0.size;have zR:=R0.size;have zQ:=Q0.size;have zS:=S0.size;go_wp2_with fail;go_region_with (first
     | (go_at_call 62;(with_reducible refine(sL r r _ Uo.out).mono ?_);refine bo ?_;intro w' f' IZ IY;have IP:ah w' w (bv a) 70:=Zv f';have cA:=IP.cell;have fA:=IP.frozen;have zA:=IP.size;have Ji:ah w' (w+1) fD 70:=Zv f';have cR:=Ji.cell;have fR:=Ji.frozen;have zR:=Ji.size;have J8:ah w' (w+1+1) (bv q) 70:=Zv f';have cQ:=J8.cell;have fQ:=J8.frozen;have zQ:=J8.size;have Lu:ah w' (w+1+1+1) (bv r) 70:=Zv f';have cS:=Lu.cell;have fS:=Lu.frozen;have zS:=Lu.size;clear f'))
   all_goals
    go_wp2;refine jF (λv=>Below w w v/\ah v (w+1) (bv q) 70) ⟨ρE,ρB⟩ ?_;clear cA cR cQ cS fA fR fQ fS zA zR zQ zS;rintro v ⟨gv,Bv⟩;have cv:=Bv.cell;refine ZO (v:=χ #[nv q,r]) (by simp[results,Tryz.results58,go_sem,cv]) rfl ⟨?_,gv⟩;rw[e1.out,e2.out]
end Go.Proofs.YtfdlemkplejdnaaGreat
