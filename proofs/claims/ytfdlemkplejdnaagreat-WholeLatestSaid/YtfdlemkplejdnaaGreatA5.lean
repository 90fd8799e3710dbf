/- WholeLatest, part 5. Conditions: none. -/
import Derived.Test.YtfdlemkplejdnaaGreatA2
import Derived.JoinedOf
namespace Go.Proofs.YtfdlemkplejdnaaGreat
open Go.RowKit Go.Sort
open Value renaming int->ι,pointer->ψ,slice->ζ,tuple->χ,agg->φ,map->μ,bool->β
open IntKind renaming u64->υ,i64->ε,u16->ω
open Ending renaming returned->ϰ
open Go.Proofs.Tryz renaming prog->Ψ,underlying3->Θ,underlying147->Δ,underlying152->Γ,underlying202->Φ,underlying39->Ξ,underlying207->Ω
open Go renaming World->ϖ,Value->ϗ
set_option linter.unusedVariables false
set_option linter.unusedSimpArgs false
set_option maxHeartbeats 8000000
set_option maxRecDepth 100000
theorem tB (a b c:Int)(ha:0<=a)(P9:a<=Ma)(hb:0<=b)(f':b<=Ma)(hc:0<=c)(RQ:c<=1):
  bits .or .u64 (bits .and .u64 a b) (bits .andNot .u64 (bits .or .u64 a b) (IntKind.u64.wrap (IntKind.u64.wrap (a+b)+c))) / Mc=(a+b+c) / Mf:=by
 have hs:IntKind.u64.wrap (IntKind.u64.wrap (a+b)+c)=(a+b+c) % Mf:=τR;rw[hs];obtain⟨x,rfl⟩:=Int.eq_ofNat_of_zero_le ha;obtain⟨y,rfl⟩:=Int.eq_ofNat_of_zero_le hb;obtain⟨z,rfl⟩:=Int.eq_ofNat_of_zero_le hc;have hx:x<Mf:=ρa;have hy:y<Mf:=ρa;have e:((x:Int)+y+z) % Mf=(((x+y+z) % Mf:Nat):Int):=ρa;have hor:x ||| y<Mf:=Nat.or_lt_two_pow (n:=64) hx hy;have hand:x &&& y<Mf:=Nat.and_lt_two_pow (n:=64) x hy;rw[e,u64_and_nat x y hx hy,u64_or_nat x y hx hy,u64_andNot_nat _ _ hor ρa,u64_or_nat _ _ hand (Nat.and_lt_two_pow (n:=64) _ ρa)];have:=wj x y z hx hy ρa;omega
theorem BM (k:Nat)(hk:k<Mf):18446744073709551615 ^^^ k=Ma - k:=by
 apply Nat.eq_of_testBit_eq;intro i;rw[Nat.testBit_xor,show Ma - k=2 ^ 64 - (k+1) by omega,Nat.testBit_two_pow_sub_succ (by omega:k<2 ^ 64),show 18446744073709551615=2 ^ 64 - 1 by decide,Nat.testBit_two_pow_sub_one];by_cases h:i<64
 ·simp[h]
 ·simp[h];exact Nat.testBit_lt_two_pow (qB hk (Nat.pow_le_pow_right (n:=2) ρf (by omega:64<=i)))
def Dd (a b:Int):Int:=if a<b then 1 else 0
theorem Bd (a b:Int):0<=Dd a b/\Dd a b<=1:=by unfold Dd;split<;>omega
theorem qm (a b c:Int)(ha:0<=a)(P9:a<=Ma)(hb:0<=b)(f':b<=Ma)(hc:0<=c)(RQ:c<=1):
  bits .or .u64 (bits .and .u64 (bits .xor .u64 IntKind.u64.max a) b) (bits .and .u64 (bits .xor .u64 IntKind.u64.max (bits .xor .u64 a b)) (IntKind.u64.wrap (IntKind.u64.wrap (a - b) - c))) / Mc=Dd a (b+c):=by
 have hs:IntKind.u64.wrap (IntKind.u64.wrap (a - b) - c)=(a - b - c) % Mf:=τR;rw[hs];obtain⟨x,rfl⟩:=Int.eq_ofNat_of_zero_le ha;obtain⟨y,rfl⟩:=Int.eq_ofNat_of_zero_le hb;obtain⟨z,rfl⟩:=Int.eq_ofNat_of_zero_le hc;have hx:x<Mf:=ρa;have hy:y<Mf:=ρa;obtain⟨s,he⟩:=Int.eq_ofNat_of_zero_le (show (0:Int)<=((x:Int) - y - z) % Mf by omega);have hs':s<Mf:=ρa;have hxor:x ^^^ y<Mf:=Nat.xor_lt_two_pow (n:=64) hx hy;have n1:∀k:Nat,k<Mf->bits .xor .u64 IntKind.u64.max (k:Int)=((Ma - k:Nat):Int):=by intro k hk;rw[show IntKind.u64.max=((Ma:Nat):Int) from rfl,u64_xor_nat _ _ ρf hk,BM k hk]
 rw[he,n1 x hx,u64_xor_nat x y hx hy,n1 _ hxor,u64_and_nat _ _ ρa hy,u64_and_nat _ _ ρa hs',u64_or_nat _ _ (Nat.and_lt_two_pow (n:=64) _ hy) (Nat.and_lt_two_pow (n:=64) _ hs')];have:=tA x y z s hx hy ρa hs' he.symm;unfold Dd;split at this<;>(split<;>omega)
theorem Jt (a b c:Int)(w:ϖ)(ha:0<=a)(P9:a<=Ma)(hb:0<=b)(f':b<=Ma)(hc:0<=c)(RQ:c<=1):Calls Ψ 268 (aH a b c) w λe w'=>e=ϰ (χ #[ι υ ((a+b+c) % Mf),ι υ ((a+b+c) / Mf)])/\w=w':=by
 go_in;go_wp2;go_ret2;exact⟨GL τR (tB a b c ha P9 hb f' hc RQ),rfl⟩
theorem Ju (a b c:Int)(w:ϖ)(ha:0<=a)(P9:a<=Ma)(hb:0<=b)(f':b<=Ma)(hc:0<=c)(RQ:c<=1):Calls Ψ 287 (aH a b c) w λe w'=>e=ϰ (χ #[ι υ ((a - b - c) % Mf),ι υ (Dd a (b+c))])/\w=w':=by
 have hsg:IntKind.u64.signed=false:=rfl;go_in;go_wp2;go_ret2;exact⟨GL τR (qm a b c ha P9 hb f' hc RQ),rfl⟩
theorem JJ (v:Int)(w:ϖ)(h0:0<=v)(h1:v<=Ma):
  CB 241 #[v] w (wv v):=by
 have e:wv v=φ #[Ky,v]:=(vR ρa ⟨h0,h1⟩ ρa).symm;rw[e];unfold CB;go_in;go_wp2;go_returns;exact⟨rfl,by go_grown⟩
theorem HW (a b:Int)(w:ϖ)(ha:ai a)(hb:ai b):
  CB 249 #[wv a,wv b] w (χ #[wv (bh (a+b)),β (decide (340282366920938463463374607431768211456<=a+b))]):=by
 have r1:=fo a;have r2:=dX a;have r3:=fo b;have r4:=dX b;have ea:=ag (nO ha);have eb:=ag (nO hb);unfold CB;go_in;go_wp2_with (go_at_call 268;refine(Jt _ _ _ _ ρa ρa ρa ρa ρa ρa).mono ?_;rintro e w' ⟨rfl,rfl⟩);go_returns;have ea':=ea.out;have eb':=eb.out;exact⟨zf τW τW (by unfold ai at ha hb;unfold hi lo at*;rw[Bool.eq_iff_iff];simp only[bne_iff_ne,decide_eq_true_eq];omega),by go_grown⟩
theorem Js (a b:Int)(w:ϖ)(ha:ai a)(hb:ai b):
  CB 275 #[wv a,wv b] w (χ #[wv (bh (a - b)),β (decide (a<b))]):=by
 have r1:=fo a;have r2:=dX a;have r3:=fo b;have r4:=dX b;have r5:=Bd (lo a) (lo b);have ea:=ag (nO ha);have eb:=ag (nO hb);unfold CB;go_in;go_wp2_with (go_at_call 287;refine(Ju _ _ _ _ ρa ρa ρa ρa ρa ρa).mono ?_;rintro e w' ⟨rfl,rfl⟩);go_returns;have ea':=ea.out;have eb':=eb.out;exact⟨zf (by unfold ai at ha hb;unfold hi lo bh Dd at*;omega) τW (by unfold ai at ha hb;unfold hi lo Dd at*;rw[Bool.eq_iff_iff];simp only[bne_iff_ne,decide_eq_true_eq];omega),by go_grown⟩
theorem uU (x:Int)(h:0<=x)(h':x<=Ma):bits .and .u64 x Md=x % Me:=by rw[u64_and x Md h ρa ρa ρa,show (Md:Int).toNat=2 ^ 32 - 1 from rfl,Nat.and_two_pow_sub_one_eq_mod];omega
theorem IP (x y:Int)(h:0<=x)(h':x<=Ma)(hx:x % Me=0)(hy:0<=y)(hy':y<=Md):bits .or .u64 x y=x+y:=by rw[u64_or x y h ρa ρa ρa,nat_join 32 _ _ ρa ρa];omega
theorem Jr (a b:Int)(w:ϖ)(ha:0<=a)(P9:a<=Ma)(hb:0<=b)(f':b<=Ma):
  CB 211 #[a,b] w (wv (a*b)):=by
 unfold CB;go_in;go_wp2;go_returns;refine⟨?_,by go_grown⟩;have p1:=nX a b;have p0:=kE a b ha P9 hb f';have p2:=fJ (a / Me) (b / Me) ρa ρa;have p3:=fJ (a / Me) (b % Me) ρa ρa;have p4:=fJ (a % Me) (b / Me) ρa ρa;have p5:=fJ (a % Me) (b % Me) ρa ρa;rw[uU a ha P9,uU b hb f'];generalize a / Me*(b / Me)=t at*;generalize a / Me*(b % Me)=q at*;generalize a % Me*(b / Me)=r at*;generalize a % Me*(b % Me)=p at*;generalize a*b=n at*;rw[qZ t ρa,qZ q ρa,qZ r ρa,qZ p ρa,qZ (q+p / Me) ρa,
  uU (q+p / Me) ρa ρa,uU p ρa ρa,qZ (r+_) ρa,qZ (t+_) ρa,qZ (t+_+_) ρa,
  IP _ _ τk τk τk ρa ρa,IntKind.wrap_u64]
 exact GN (by unfold hi;omega) (by unfold lo;omega)
def lq (a b:Int):Int:=if a<b then -1 else if a=b then 0 else 1
theorem AH (a b:Int)(w:ϖ)(ha:ai a)(hb:ai b):
  CB 235 #[wv a,wv b] w (ι ε (lq a b)):=by
 have r1:=fo a;have r2:=dX a;have r3:=fo b;have r4:=dX b;have ea:=ag (nO ha);have eb:=ag (nO hb);rcases Int.lt_or_le (hi a) (hi b) with h1|h1
 ·exact ηL
 ·rcases Int.lt_or_le (hi b) (hi a) with h2|h2
  ·have KI:¬(hi a=hi b):=by omega
   exact ηz
  ·have KI:hi a=hi b:=by omega
   rcases Int.lt_or_le (lo a) (lo b) with h3|h3
   ·exact ηL
   ·by_cases h4:lo a=lo b
    ·unfold CB;go_in;go_wp2;go_ret;have ea':=ea.out;have eb':=eb.out;exact⟨dY (by unfold lq;rw[qI ρa,qP ρa]),by go_grown⟩
    ·exact ηz
theorem Ai (x y:Int)(hy:0<=y)(hy':y<=Ma):
  bits .or .u64 (IntKind.u64.wrap (x*2)) (y / Mc)=(x*2+y / Mc) % Mf:=by
 rw[u64_or _ _ τk τk ρa ρa,nat_join 1 _ _ τk ρa,IntKind.wrap_u64];omega
theorem Ag (n:Int):bits .or .u64 (IntKind.u64.wrap (hi n*2)) (lo n / Mc)=hi (bh (n*2)):=by have:=dX n;rw[Ai _ _ this.1 this.2];unfold hi lo bh;omega
theorem Ah (n:Int):IntKind.u64.wrap (lo n*2)=lo (bh (n*2)):=by rw[IntKind.wrap_u64];unfold lo bh;omega
theorem EK (n:Int):bits .or .u64 (lo (bh (n*2))) 1=lo (bh (n*2)+1):=by have h:=dX (bh (n*2));rw[u64_or _ _ h.1 ρa ρa ρa,nat_join 1 _ _ (by unfold lo bh;omega) ρf];unfold lo bh at*;omega
theorem Eh (n:Int):hi (bh (n*2)+1)=hi (bh (n*2)):=by unfold hi bh;omega
theorem uI {k:Nat} (h:k<=127):(2:Int) ^ k<=170141183460469231731687303715884105728:=by have:=Nat.pow_le_pow_right (n:=2) ρf h;have e:(2:Nat) ^ 127=170141183460469231731687303715884105728:=ρf;rw[e] at this;have h2:((2 ^ k:Nat):Int)=(2:Int) ^ k:=Int.natCast_pow 2 k;omega
def eM (A b:Int)(k:Nat)(R q rest:Int):Prop:=
 ai R/\ai q/\∃P:Int,P<2 ^ k/\A*2 ^ k=P*340282366920938463463374607431768211456+R/\q*b+rest=P/\0<=rest/\rest<b
theorem eM.start {A b:Int} (hA:ai A)(hb:1<=b):eM A b 0 A 0 0:=
 ⟨hA,by unfold ai;omega,0,by simp,by simp,by simp,by omega,by omega⟩
theorem eM.rest_rng {A b:Int} {k:Nat} {R q rest:Int} (h:eM A b k R q rest):0<=rest/\rest<b:=by obtain⟨_,_,_,_,_,_,h⟩:=h;exact h
theorem eM.step {A b:Int} {k:Nat} {R q rest:Int} (h:eM A b k R q rest)(hk:k<128)(hb:1<=b):
  (rest*2+hi R / Mc<b->eM A b (k+1) (bh (R*2)) (bh (q*2)) (rest*2+hi R / Mc))/\
  (b<=rest*2+hi R / Mc->eM A b (k+1) (bh (R*2)) (bh (q*2)+1) (rest*2+hi R / Mc - b)):=by
 obtain⟨hR,hq,P,hP,hX,hQ,h0,h1⟩:=h;have h2:=uI (k:=k) ρa;have hqP:q<=q*b:=by have:=qU hb hq.1;omega
 have e1:A*2 ^ (k+1)=A*2 ^ k*2:=by rw[Int.pow_succ,Int.mul_assoc]
 have e2:(2:Int) ^ (k+1)=2 ^ k*2:=Int.pow_succ 2 k;have MQ:bh (q*2)=q*2:=fI (by unfold ai at*;omega);have e3:q*2*b=q*b*2:=by rw[Int.mul_right_comm]
 have e4:(q*2+1)*b=q*b*2+b:=by rw[Int.add_mul,e3,Int.one_mul]
 refine⟨λhc=>⟨jF _,jF _,P*2+hi R / Mc,?_,?_,?_,?_,hc⟩,λhc=>⟨jF _,?_,P*2+hi R / Mc,?_,?_,?_,?_,?_⟩⟩
 ·rw[e2];unfold hi;omega
 ·rw[e1,hX];unfold ai at hR;unfold hi bh;omega
 ·rw[MQ,e3];omega
 ·unfold hi;omega
 ·rw[MQ];unfold ai at*;omega
 ·rw[e2];unfold hi;omega
 ·rw[e1,hX];unfold ai at hR;unfold hi bh;omega
 ·rw[MQ,e4];omega
 ·omega
 ·unfold ai at hR;unfold hi;omega
theorem eM.fin {A b:Int} {R q rest:Int} (h:eM A b 128 R q rest)(hb:1<=b):q=A / b/\rest=A % b:=by
 obtain⟨hR,_,P,_,hX,hQ,h0,h1⟩:=h;rw[show (2:Int) ^ 128=340282366920938463463374607431768211456 from by decide] at hX;have hPA:P=A:=by unfold ai at hR;omega
 subst hPA;subst hQ;refine⟨?_,?_⟩
 ·rw[Int.add_comm,Int.add_mul_ediv_right _ _ ρa,Int.ediv_eq_zero_of_lt h0 h1];omega
 ·rw[Int.add_comm,Int.add_mul_emod_self_right,Int.emod_eq_of_lt h0 h1]
theorem Jq (A b:Int)(w:ϖ)(hA:ai A)(hb:1<=b)(f':b<=Ma):
  CB 288 #[wv A,b] w (χ #[wv (A / b),ι υ (A % b),Kz]):=by
 have Ua:(b==0)=false:=qN.2 ρa;unfold CB;go_in;go_wp2;go_loopw [8,13] (λr i wr=>∃(k:Nat) (R q rest:Int),k<=128/\eM A b k R q rest/\i=ι ε k/\r=rest/\
   wr=((w.alloc (.cells #[(hi R),(lo R)] 232)).alloc (.cells #[Ky,Ky] 232)).alloc (.cells #[(hi q),(lo q)] 232)) (λ_ i _=>128 - (intOf i).toNat)
 case atStart=>exact⟨0,A,0,0,by omega,eM.start hA hb,rfl,rfl,rfl⟩
 case round=>
  obtain⟨k,R,q,rest,hk,hrel,rfl,rfl,rfl⟩:=hrel;have r1:=fo R;have r2:=dX R;have r3:=fo q;have r4:=dX q;obtain⟨h0,h1⟩:=hrel.rest_rng;by_cases Ku:k<128
  ·have LS:=ag (hrel.step Ku hb);have hH:=ag hrel;clear hrel;have e1:=Ag R;have e2:=Ah R;have e3:=Ag q;have e4:=Ah q;have e5:=EK q;have r5:=fo (bh (R*2));have r6:=dX (bh (R*2));have r7:=fo (bh (q*2));have r8:=dX (bh (q*2));obtain⟨x,hx⟩:=Nq (bits .or .u64 (IntKind.u64.wrap (rest*2)) (hi R / Mc));have Uk:=ag (hx.symm.trans (Ai _ _ r1.1 r1.2));have hxr:0<=x/\x<=Ma:=by have:=Uk.out;omega
   have ehi:=ag (Eh q);rcases Int.lt_or_le rest Mc with hc|hc
   ·have hd:(rest / Mc !=0)=false:=by rw[bne_eq_false_iff_eq];omega
    have WP:x=rest*2+hi R / Mc:=by have:=Uk.out;omega
    have XW:=ag WP;clear WP;rw[qZ (rest*2) ρa] at hx;rcases Int.lt_or_le x b with hc2|hc2
    ·have Np:=df (b<=x);go_wp2;go_roundw;case rel=>exact⟨k+1,bh (R*2),bh (q*2),x,by omega,by rw[XW.out];exact LS.out.1 (by rw[<- XW.out];exact hc2),by go_num,rfl,rfl⟩
     case measure=>simp[intOf];omega
    ·have Np:=dt (b<=x);go_wp2;go_roundw;case rel=>exact⟨k+1,bh (R*2),bh (q*2)+1,x - b,by omega,by rw[XW.out];exact LS.out.2 (by rw[<- XW.out];exact hc2),by go_num,rfl,by rw[ehi.out]⟩
     case measure=>simp[intOf];omega
   ·have hd:(rest / Mc !=0)=true:=by rw[bne_iff_ne];omega
    have hxw:IntKind.u64.wrap (x - b)=rest*2+hi R / Mc - b:=by rw[IntKind.wrap_u64,Uk.out];omega
    have hxw':=ag hxw;clear hxw;go_wp2;go_roundw;case rel=>exact⟨k+1,bh (R*2),bh (q*2)+1,IntKind.u64.wrap (x - b),by omega,by rw[hxw'.out];exact LS.out.2 ρa,by go_num,rfl,by rw[ehi.out]⟩
    case measure=>simp[intOf];omega
  ·obtain rfl:k=128:=by omega
   obtain⟨f1,f2⟩:=hrel.fin hb;have f1':=ag f1;have f2':=ag f2;clear f1 f2 hrel;go_wp2;go_returns;exact⟨by rw[<- f1'.out,<- f2'.out],by go_grown⟩
theorem Ia (A:Int)(w:ϖ):
  CB 288 #[wv A,Ky] w (χ #[wv 0,Ky,Ko]):=by
 have e:wv 0=φ #[Ky,Ky]:=(vR ρa ρa ρa).symm;rw[e];unfold CB;go_in;go_wp2;go_returns;exact⟨rfl,by go_grown⟩
namespace wholeLatestDone
theorem dC {a b:Bool} (ha:a=true)(hb:b=true):(a && b)=true:=by rw[ha,hb];rfl
theorem j0:(Rows.wholeLatestRow.wf (OpenSpec.ofChange Rows.wholeLatestSpec))=true:=by kernel_rfl
theorem j1:(laidOutB Ψ)=true:=by kernel_rfl
theorem j2:(mapsRowed Ψ)=true:=by kernel_rfl
theorem j3:(Tryz.f3.params.all (Ψ.readableRec ·))=true:=by kernel_rfl
theorem j4:(namedTie Ψ Rows.wholeLatestRow.named Rows.wholeLatestSpec.vars)=true:=by kernel_rfl
theorem j5:(Rows.wholeLatestRow.stops==[])=true:=by kernel_rfl
theorem j6:(Ψ.stops==[])=true:=by kernel_rfl
theorem j7:(Rows.wholeLatestRow.knobs==[])=true:=by kernel_rfl
theorem j8:(Ψ.stopKnobs==[])=true:=by kernel_rfl
theorem j9:(Rows.wholeLatestRow.inPlace==Ψ.inPlace 3)=true:=by kernel_rfl
theorem JN:(Rows.wholeLatestRow.unfollowed==Ψ.unfollowed 3)=true:=by kernel_rfl
theorem JO:(Rows.wholeLatestRow.recurses==Ψ.recurses 3)=true:=by kernel_rfl
theorem JP:(Rows.wholeLatestRow.named==Ψ.varsNamed 3)=true:=by kernel_rfl
theorem JQ:(Rows.wholeLatestRow.maps==(Tryz.f3.params.toList++Rows.wholeLatestSpec.plain.varTypes Ψ).any (Ψ.mapsRec ·))=true:=by kernel_rfl
theorem JR:(Rows.wholeLatestRow.ifaces==(Tryz.f3.params.toList++Rows.wholeLatestSpec.plain.varTypes Ψ).any (Ψ.ifacesRec ·))=true:=by kernel_rfl
theorem JS:(Rows.wholeLatestRow.mapsOut==Ψ.mapsAmong Tryz.f3.resultTypes.toList)=true:=by kernel_rfl
theorem JT:(Rows.wholeLatestRow.loops==(Tryz.f3.params.toList++Rows.wholeLatestSpec.plain.varTypes Ψ).any (Ψ.loopsFrom ·))=true:=by kernel_rfl
theorem JU:(Rows.wholeLatestRow.wideKeys==(Tryz.f3.params.toList++Rows.wholeLatestSpec.plain.varTypes Ψ++Tryz.f3.resultTypes.toList).any (Ψ.wideKeysFrom ·))=true:=by kernel_rfl
theorem JV:(Rows.wholeLatestSpec.vars.all (Ψ.varReadable ·))=true:=by kernel_rfl
theorem JW:(Tryz.f3.resultTypes.all (λt=>Ψ.readableRec t && decide (t<Ψ.types.size)))=true:=by kernel_rfl
theorem JX:(Rows.wholeLatestRow.ifacesOut==Tryz.f3.resultTypes.toList.any (Ψ.ifacesRec ·))=true:=by kernel_rfl
theorem JY:(Rows.wholeLatestRow.loopsOut==Tryz.f3.resultTypes.toList.any (Ψ.loopsFrom ·))=true:=by kernel_rfl
theorem JZ:(Rows.wholeLatestRow.plainKeys==Ψ.plainKeys)=true:=by kernel_rfl
theorem J0:(Rows.wholeLatestRow.shortTexts.isNone)=true:=by kernel_rfl
theorem J1:(Ψ.stopsHeard)=true:=by kernel_rfl
theorem J2:(Ψ.mayEnter)=true:=by kernel_rfl
theorem J3:(Rows.wholeLatestRow.lifted==Ψ.liftsFinal)=true:=by kernel_rfl
theorem J7:(Ψ.make==some Rows.wholeLatestRow.make)=true:=by kernel_rfl
theorem J8:(Rows.wholeLatestRow.kinds==(if Rows.wholeLatestRow.domain.isEmpty then [] else Tryz.f3.params.toList.map λt=>match Ψ.underlying t with|some (.int k)=>some k|_=>none))=true:=by kernel_rfl
theorem J9:(Rows.wholeLatestRow.pinned==Rows.wholeLatestRow.pinnedBy)=true:=by kernel_rfl
theorem Ka:(Rows.wholeLatestRow.veiled==(Tryz.f3.params.toList++Rows.wholeLatestSpec.plain.varTypes Ψ++Tryz.f3.resultTypes.toList).any (Ψ.veiledRec ·))=true:=by kernel_rfl
theorem Kc:(Rows.wholeLatestRow.veiledFits Ψ Tryz.f3.params.toList (Tryz.f3.params.toList++Rows.wholeLatestSpec.plain.varTypes Ψ++Tryz.f3.resultTypes.toList))=true:=by kernel_rfl
theorem DR:joinedFacts Ψ 3 Tryz.f3 Rows.wholeLatestSpec Rows.wholeLatestRow=true:=by unfold joinedFacts;exact(dC (dC (dC (dC (dC (dC (dC (dC (dC (dC (dC (dC (dC (dC (dC (dC (dC (dC (dC (dC (dC (dC (dC (dC (dC (dC (dC (dC (dC (dC (dC j0 j1) j2) j3) j4) j5) j6) j7) j8) j9) JN) JO) JP) JQ) JR) JS) JT) JU) JV) JW) JX) JY) JZ) J0) J1) J2) J3) J7) J8) J9) Ka) Kc)
theorem named:Ψ.funcNamed Rows.wholeLatestRow.func=some 3:=by kernel_rfl
end wholeLatestDone
end Go.Proofs.YtfdlemkplejdnaaGreat
