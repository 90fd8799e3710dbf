/- WholeBehind, part 5. Conditions: none. -/
import Derived.Test.YtfdlemkplejdnaaGreatA2
import Derived.Deep.MidRow
import Derived.ProofKit
import Derived.OpenShut
import Derived.ShutString
import Derived.ChangeOld
import Derived.Lib.SmallJoins
import Derived.MapKept
import Derived.WideMake
import Derived.Laws.IdiomRangeMap
import Derived.Laws.BytesArg
import Derived.JoinedOf
namespace Go.Proofs.YtfdlemkplejdnaaGreat
open Go.RowKit Go.Sort
open Value renaming int->ι,pointer->ψ,slice->ζ,tuple->χ,agg->φ,map->μ,bool->β
open IntKind renaming u64->υ,i64->ε,u16->ω
open Ending renaming returned->ϰ
open Go.Proofs.Tryz renaming prog->Ψ,underlying3->Θ,underlying147->Δ,underlying152->Γ,underlying202->Φ,underlying39->Ξ,underlying207->Ω
open Go renaming World->ϖ,Value->ϗ
set_option linter.unusedVariables false
set_option linter.unusedSimpArgs false
set_option maxHeartbeats 8000000
set_option maxRecDepth 100000
theorem rH (a b c:Int)(ha:0<=a)(Pj:a<=Ma)(hb:0<=b)(f':b<=Ma)(hc:0<=c)(Tq:c<=1):
  bits .or .u64 (bits .and .u64 a b) (bits .andNot .u64 (bits .or .u64 a b) (IntKind.u64.wrap (IntKind.u64.wrap (a+b)+c))) / Mc=(a+b+c) / Mf:=by
 have hs:IntKind.u64.wrap (IntKind.u64.wrap (a+b)+c)=(a+b+c) % Mf:=τX;rw[hs];obtain⟨x,rfl⟩:=Int.eq_ofNat_of_zero_le ha;obtain⟨y,rfl⟩:=Int.eq_ofNat_of_zero_le hb;obtain⟨z,rfl⟩:=Int.eq_ofNat_of_zero_le hc;have hx:x<Mf:=ρa;have hy:y<Mf:=ρa;have e:((x:Int)+y+z) % Mf=(((x+y+z) % Mf:Nat):Int):=ρa;have hor:x ||| y<Mf:=Nat.or_lt_two_pow (n:=64) hx hy;have hand:x &&& y<Mf:=Nat.and_lt_two_pow (n:=64) x hy;rw[e,u64_and_nat x y hx hy,u64_or_nat x y hx hy,u64_andNot_nat _ _ hor ρa,u64_or_nat _ _ hand (Nat.and_lt_two_pow (n:=64) _ ρa)];have:=uH x y z hx hy ρa;omega
theorem Aj (k:Nat)(hk:k<Mf):18446744073709551615 ^^^ k=Ma - k:=by
 apply Nat.eq_of_testBit_eq;intro i;rw[Nat.testBit_xor,show Ma - k=2 ^ 64 - (k+1) by omega,Nat.testBit_two_pow_sub_succ (by omega:k<2 ^ 64),show 18446744073709551615=2 ^ 64 - 1 by decide,Nat.testBit_two_pow_sub_one];by_cases h:i<64
 ·simp[h]
 ·simp[h];exact Nat.testBit_lt_two_pow (ZB hk (Nat.pow_le_pow_right (n:=2) ρf (by omega:64<=i)))
def Bw (a b:Int):Int:=if a<b then 1 else 0
theorem yT (a b:Int):0<=Bw a b/\Bw a b<=1:=by unfold Bw;split<;>omega
theorem py (a b c:Int)(ha:0<=a)(Pj:a<=Ma)(hb:0<=b)(f':b<=Ma)(hc:0<=c)(Tq:c<=1):
  bits .or .u64 (bits .and .u64 (bits .xor .u64 IntKind.u64.max a) b) (bits .and .u64 (bits .xor .u64 IntKind.u64.max (bits .xor .u64 a b)) (IntKind.u64.wrap (IntKind.u64.wrap (a - b) - c))) / Mc=Bw a (b+c):=by
 have hs:IntKind.u64.wrap (IntKind.u64.wrap (a - b) - c)=(a - b - c) % Mf:=τX;rw[hs];obtain⟨x,rfl⟩:=Int.eq_ofNat_of_zero_le ha;obtain⟨y,rfl⟩:=Int.eq_ofNat_of_zero_le hb;obtain⟨z,rfl⟩:=Int.eq_ofNat_of_zero_le hc;have hx:x<Mf:=ρa;have hy:y<Mf:=ρa;obtain⟨s,he⟩:=Int.eq_ofNat_of_zero_le (show (0:Int)<=((x:Int) - y - z) % Mf by omega);have hs':s<Mf:=ρa;have hxor:x ^^^ y<Mf:=Nat.xor_lt_two_pow (n:=64) hx hy;have n1:∀k:Nat,k<Mf->bits .xor .u64 IntKind.u64.max (k:Int)=((Ma - k:Nat):Int):=by intro k hk;rw[show IntKind.u64.max=((Ma:Nat):Int) from rfl,u64_xor_nat _ _ ρf hk,Aj k hk]
 rw[he,n1 x hx,u64_xor_nat x y hx hy,n1 _ hxor,u64_and_nat _ _ ρa hy,u64_and_nat _ _ ρa hs',u64_or_nat _ _ (Nat.and_lt_two_pow (n:=64) _ hy) (Nat.and_lt_two_pow (n:=64) _ hs')];have:=rF x y z s hx hy ρa hs' he.symm;unfold Bw;split at this<;>(split<;>omega)
theorem GP (a b c:Int)(w:ϖ)(ha:0<=a)(Pj:a<=Ma)(hb:0<=b)(f':b<=Ma)(hc:0<=c)(Tq:c<=1):Calls Ψ 268 (aP a b c) w λe w'=>e=ϰ (χ #[ι υ ((a+b+c) % Mf),ι υ ((a+b+c) / Mf)])/\w=w':=by
 go_in;go_wp2;go_ret2;exact⟨EY τX (rH a b c ha Pj hb f' hc Tq),rfl⟩
theorem GQ (a b c:Int)(w:ϖ)(ha:0<=a)(Pj:a<=Ma)(hb:0<=b)(f':b<=Ma)(hc:0<=c)(Tq:c<=1):Calls Ψ 287 (aP a b c) w λe w'=>e=ϰ (χ #[ι υ ((a - b - c) % Mf),ι υ (Bw a (b+c))])/\w=w':=by
 have hsg:IntKind.u64.signed=false:=rfl;go_in;go_wp2;go_ret2;exact⟨EY τX (py a b c ha Pj hb f' hc Tq),rfl⟩
theorem Hz (v:Int)(w:ϖ)(h0:0<=v)(h1:v<=Ma):
  CB 241 #[v] w (wv v):=by
 have e:wv v=φ #[Ky,v]:=(ut ρa ⟨h0,h1⟩ ρa).symm;rw[e];unfold CB;go_in;go_wp2;go_returns;exact⟨rfl,by go_grown⟩
theorem FC (a b:Int)(w:ϖ)(ha:ai a)(hb:ai b):
  CB 249 #[wv a,wv b] w (χ #[wv (bp (a+b)),β (decide (340282366920938463463374607431768211456<=a+b))]):=by
 have r1:=ff a;have r2:=dO a;have r3:=ff b;have r4:=dO b;have ea:=ag (mT ha);have eb:=ag (mT hb);unfold CB;go_in;go_wp2_with (go_at_call 268;refine(GP _ _ _ _ ρa ρa ρa ρa ρa ρa).mono ?_;rintro e w' ⟨rfl,rfl⟩);go_returns;have ea':=ea.out;have eb':=eb.out;exact⟨xA τ2 τ2 (by unfold ai at ha hb;unfold hi lo at*;rw[Bool.eq_iff_iff];simp only[bne_iff_ne,decide_eq_true_eq];omega),by go_grown⟩
theorem GO (a b:Int)(w:ϖ)(ha:ai a)(hb:ai b):
  CB 275 #[wv a,wv b] w (χ #[wv (bp (a - b)),β (decide (a<b))]):=by
 have r1:=ff a;have r2:=dO a;have r3:=ff b;have r4:=dO b;have r5:=yT (lo a) (lo b);have ea:=ag (mT ha);have eb:=ag (mT hb);unfold CB;go_in;go_wp2_with (go_at_call 287;refine(GQ _ _ _ _ ρa ρa ρa ρa ρa ρa).mono ?_;rintro e w' ⟨rfl,rfl⟩);go_returns;have ea':=ea.out;have eb':=eb.out;exact⟨xA (by unfold ai at ha hb;unfold hi lo bp Bw at*;omega) τ2 (by unfold ai at ha hb;unfold hi lo Bw at*;rw[Bool.eq_iff_iff];simp only[bne_iff_ne,decide_eq_true_eq];omega),by go_grown⟩
theorem tJ (x:Int)(h:0<=x)(h':x<=Ma):bits .and .u64 x Md=x % Me:=by rw[u64_and x Md h ρa ρa ρa,show (Md:Int).toNat=2 ^ 32 - 1 from rfl,Nat.and_two_pow_sub_one_eq_mod];omega
theorem Gj (x y:Int)(h:0<=x)(h':x<=Ma)(hx:x % Me=0)(hy:0<=y)(hy':y<=Md):bits .or .u64 x y=x+y:=by rw[u64_or x y h ρa ρa ρa,nat_join 32 _ _ ρa ρa];omega
theorem GN (a b:Int)(w:ϖ)(ha:0<=a)(Pj:a<=Ma)(hb:0<=b)(f':b<=Ma):
  CB 211 #[a,b] w (wv (a*b)):=by
 unfold CB;go_in;go_wp2;go_returns;refine⟨?_,by go_grown⟩;have p1:=mZ a b;have p0:=jN a b ha Pj hb f';have p2:=fG (a / Me) (b / Me) ρa ρa;have p3:=fG (a / Me) (b % Me) ρa ρa;have p4:=fG (a % Me) (b / Me) ρa ρa;have p5:=fG (a % Me) (b % Me) ρa ρa;rw[tJ a ha Pj,tJ b hb f'];generalize a / Me*(b / Me)=t at*;generalize a / Me*(b % Me)=q at*;generalize a % Me*(b / Me)=r at*;generalize a % Me*(b % Me)=p at*;generalize a*b=n at*;rw[ZZ t ρa,ZZ q ρa,ZZ r ρa,ZZ p ρa,ZZ (q+p / Me) ρa,
  tJ (q+p / Me) ρa ρa,tJ p ρa ρa,ZZ (r+_) ρa,ZZ (t+_) ρa,ZZ (t+_+_) ρa,
  Gj _ _ τl τl τl ρa ρa,IntKind.wrap_u64]
 exact Fa κo (by unfold lo;omega)
def kG (a b:Int):Int:=if a<b then -1 else if a=b then 0 else 1
theorem yA (a b:Int)(w:ϖ)(ha:ai a)(hb:ai b):
  CB 235 #[wv a,wv b] w (ι ε (kG a b)):=by
 have r1:=ff a;have r2:=dO a;have r3:=ff b;have r4:=dO b;have ea:=ag (mT ha);have eb:=ag (mT hb);rcases Int.lt_or_le (hi a) (hi b) with h1|h1
 ·exact ηK
 ·rcases Int.lt_or_le (hi b) (hi a) with h2|h2
  ·have IX:¬(hi a=hi b):=by omega
   exact ηy
  ·have IX:hi a=hi b:=by omega
   rcases Int.lt_or_le (lo a) (lo b) with h3|h3
   ·exact ηK
   ·by_cases h4:lo a=lo b
    ·unfold CB;go_in;go_wp2;go_ret;have ea':=ea.out;have eb':=eb.out;exact⟨dP (by unfold kG;rw[ZI ρa,ZP ρa]),by go_grown⟩
    ·exact ηy
theorem xT (x y:Int)(hy:0<=y)(hy':y<=Ma):
  bits .or .u64 (IntKind.u64.wrap (x*2)) (y / Mc)=(x*2+y / Mc) % Mf:=by
 rw[u64_or _ _ τl τl ρa ρa,nat_join 1 _ _ τl ρa,IntKind.wrap_u64];omega
theorem xR (n:Int):bits .or .u64 (IntKind.u64.wrap (hi n*2)) (lo n / Mc)=hi (bp (n*2)):=by have:=dO n;rw[xT _ _ this.1 this.2];unfold hi lo bp;omega
theorem xS (n:Int):IntKind.u64.wrap (lo n*2)=lo (bp (n*2)):=by rw[IntKind.wrap_u64];unfold lo bp;omega
theorem CS (n:Int):bits .or .u64 (lo (bp (n*2))) 1=lo (bp (n*2)+1):=by have h:=dO (bp (n*2));rw[u64_or _ _ h.1 ρa ρa ρa,nat_join 1 _ _ (by unfold lo bp;omega) ρf];unfold lo bp at*;omega
theorem Cx (n:Int):hi (bp (n*2)+1)=hi (bp (n*2)):=by unfold hi bp;omega
theorem tm {k:Nat} (h:k<=127):(2:Int) ^ k<=170141183460469231731687303715884105728:=by have:=Nat.pow_le_pow_right (n:=2) ρf h;have e:(2:Nat) ^ 127=170141183460469231731687303715884105728:=ρf;rw[e] at this;have h2:((2 ^ k:Nat):Int)=(2:Int) ^ k:=Int.natCast_pow 2 k;omega
def eO (A b:Int)(k:Nat)(R q rest:Int):Prop:=
 ai R/\ai q/\∃P:Int,P<2 ^ k/\A*2 ^ k=P*340282366920938463463374607431768211456+R/\q*b+rest=P/\0<=rest/\rest<b
theorem eO.start {A b:Int} (hA:ai A)(hb:1<=b):eO A b 0 A 0 0:=
 ⟨hA,by unfold ai;omega,0,by simp,by simp,by simp,by omega,by omega⟩
theorem eO.rest_rng {A b:Int} {k:Nat} {R q rest:Int} (h:eO A b k R q rest):0<=rest/\rest<b:=by obtain⟨_,_,_,_,_,_,h⟩:=h;exact h
theorem eO.step {A b:Int} {k:Nat} {R q rest:Int} (h:eO A b k R q rest)(hk:k<128)(hb:1<=b):
  (rest*2+hi R / Mc<b->eO A b (k+1) (bp (R*2)) (bp (q*2)) (rest*2+hi R / Mc))/\
  (b<=rest*2+hi R / Mc->eO A b (k+1) (bp (R*2)) (bp (q*2)+1) (rest*2+hi R / Mc - b)):=by
 obtain⟨hR,hq,P,hP,hX,hQ,h0,h1⟩:=h;have h2:=tm (k:=k) ρa;have hqP:q<=q*b:=by have:=ZU hb hq.1;omega
 have e1:A*2 ^ (k+1)=A*2 ^ k*2:=by rw[Int.pow_succ,Int.mul_assoc]
 have e2:(2:Int) ^ (k+1)=2 ^ k*2:=Int.pow_succ 2 k;have Kk:bp (q*2)=q*2:=iJ (by unfold ai at*;omega);have e3:q*2*b=q*b*2:=by rw[Int.mul_right_comm]
 have e4:(q*2+1)*b=q*b*2+b:=by rw[Int.add_mul,e3,Int.one_mul]
 refine⟨λhc=>⟨jp _,jp _,P*2+hi R / Mc,?_,?_,?_,?_,hc⟩,λhc=>⟨jp _,?_,P*2+hi R / Mc,?_,?_,?_,?_,?_⟩⟩
 ·rw[e2];unfold hi;omega
 ·rw[e1,hX];unfold ai at hR;unfold hi bp;omega
 ·rw[Kk,e3];omega
 ·unfold hi;omega
 ·rw[Kk];unfold ai at*;omega
 ·rw[e2];unfold hi;omega
 ·rw[e1,hX];unfold ai at hR;unfold hi bp;omega
 ·rw[Kk,e4];omega
 ·omega
 ·unfold ai at hR;unfold hi;omega
theorem eO.fin {A b:Int} {R q rest:Int} (h:eO A b 128 R q rest)(hb:1<=b):q=A / b/\rest=A % b:=by
 obtain⟨hR,_,P,_,hX,hQ,h0,h1⟩:=h;rw[show (2:Int) ^ 128=340282366920938463463374607431768211456 from by decide] at hX;have hPA:P=A:=by unfold ai at hR;omega
 subst hPA;subst hQ;refine⟨?_,?_⟩
 ·rw[Int.add_comm,Int.add_mul_ediv_right _ _ ρa,Int.ediv_eq_zero_of_lt h0 h1];omega
 ·rw[Int.add_comm,Int.add_mul_emod_self_right,Int.emod_eq_of_lt h0 h1]
theorem GM (A b:Int)(w:ϖ)(hA:ai A)(hb:1<=b)(f':b<=Ma):
  CB 288 #[wv A,b] w (χ #[wv (A / b),ι υ (A % b),Kz]):=by
 have OH:(b==0)=false:=ZN.2 ρa;unfold CB;go_in;go_wp2;go_loopw [8,13] (λr i wr=>∃(k:Nat) (R q rest:Int),k<=128/\eO A b k R q rest/\i=ι ε k/\r=rest/\
   wr=((w.alloc (.cells #[(hi R),(lo R)] 232)).alloc (.cells #[Ky,Ky] 232)).alloc (.cells #[(hi q),(lo q)] 232)) (λ_ i _=>128 - (intOf i).toNat)
 case atStart=>exact⟨0,A,0,0,by omega,eO.start hA hb,rfl,rfl,rfl⟩
 case round=>
  obtain⟨k,R,q,rest,hk,hrel,rfl,rfl,rfl⟩:=hrel;have r1:=ff R;have r2:=dO R;have r3:=ff q;have r4:=dO q;obtain⟨h0,h1⟩:=hrel.rest_rng;by_cases IJ:k<128
  ·have JY:=ag (hrel.step IJ hb);have hH:=ag hrel;clear hrel;have e1:=xR R;have e2:=xS R;have e3:=xR q;have e4:=xS q;have e5:=CS q;have r5:=ff (bp (R*2));have r6:=dO (bp (R*2));have r7:=ff (bp (q*2));have r8:=dO (bp (q*2));obtain⟨x,hx⟩:=Nq (bits .or .u64 (IntKind.u64.wrap (rest*2)) (hi R / Mc));have Vq:=ag (hx.symm.trans (xT _ _ r1.1 r1.2));have hxr:0<=x/\x<=Ma:=by have:=Vq.out;omega
   have ehi:=ag (Cx q);rcases Int.lt_or_le rest Mc with hc|hc
   ·have hd:(rest / Mc !=0)=false:=by rw[bne_eq_false_iff_eq];omega
    have Vr:x=rest*2+hi R / Mc:=by have:=Vq.out;omega
    have WJ:=ag Vr;clear Vr;rw[ZZ (rest*2) ρa] at hx;rcases Int.lt_or_le x b with hc2|hc2
    ·have Li:=df (b<=x);go_wp2;go_roundw;case rel=>exact⟨k+1,bp (R*2),bp (q*2),x,by omega,by rw[WJ.out];exact JY.out.1 (by rw[<- WJ.out];exact hc2),by go_num,rfl,rfl⟩
     case measure=>simp[intOf];omega
    ·have Li:=dt (b<=x);go_wp2;go_roundw;case rel=>exact⟨k+1,bp (R*2),bp (q*2)+1,x - b,by omega,by rw[WJ.out];exact JY.out.2 (by rw[<- WJ.out];exact hc2),by go_num,rfl,by rw[ehi.out]⟩
     case measure=>simp[intOf];omega
   ·have hd:(rest / Mc !=0)=true:=by rw[bne_iff_ne];omega
    have hxw:IntKind.u64.wrap (x - b)=rest*2+hi R / Mc - b:=by rw[IntKind.wrap_u64,Vq.out];omega
    have hxw':=ag hxw;clear hxw;go_wp2;go_roundw;case rel=>exact⟨k+1,bp (R*2),bp (q*2)+1,IntKind.u64.wrap (x - b),by omega,by rw[hxw'.out];exact JY.out.2 ρa,by go_num,rfl,by rw[ehi.out]⟩
    case measure=>simp[intOf];omega
  ·obtain rfl:k=128:=by omega
   obtain⟨f1,f2⟩:=hrel.fin hb;have f1':=ag f1;have f2':=ag f2;clear f1 f2 hrel;go_wp2;go_returns;exact⟨by rw[<- f1'.out,<- f2'.out],by go_grown⟩
theorem FE (A:Int)(w:ϖ):
  CB 288 #[wv A,Ky] w (χ #[wv 0,Ky,Ko]):=by
 have e:wv 0=φ #[Ky,Ky]:=(ut ρa ρa ρa).symm;rw[e];unfold CB;go_in;go_wp2;go_returns;exact⟨rfl,by go_grown⟩
def cJ (cs:Array ϗ)(o:Nat):List ϗ->Array ϗ
 | []=>cs
 | v::r=>cJ (cs.setIfInBounds o v) (o+1) r
theorem js:∀(vs rest Oe:List ϗ),rest.length=vs.length->cJ (Oe++rest).toArray Oe.length vs=(Oe++vs).toArray
 | [],[],Oe,_=>by simp[cJ]
 | [],_::_,_,h=>by simp at h
 | v::vs,[],_,h=>by simp at h
 | v::vs,r::rest,Oe,h=>by
  have ih:=js vs rest (Oe++[v]) σL;unfold cJ;rw[List.setIfInBounds_toArray];have e:(Oe++r::rest).set Oe.length v=(Oe++[v])++rest:=by rw[List.set_append_right _ _ (ZR _)];simp
  rw[e];simpa using ih
theorem qE (cs cs':Array ϗ)(h:cs'.size=cs.size):cJ cs 0 cs'.toList=cs':=by have:=js cs'.toList cs.toList [] (by simp[h]);simpa using this
theorem ah.setCells {B:Nat} {t:TypeId}:∀(vs:List ϗ)(o:Nat)(w:ϖ)(cs:Array ϗ),ah w B cs t->ah (w.setCells B o vs) B (cJ cs o vs) t
 | [],_,_,_,h=>h
 | v::r,o,w,cs,h=>ah.setCells r (o+1) _ _ (h.set_same rfl)
theorem ah.setCells_other {B b:Nat} {t:TypeId} {c:Array ϗ} (hb:b≠B):∀(vs:List ϗ)(o:Nat)(w:ϖ),ah w b c t->ah (w.setCells B o vs) b c t
 | [],_,_,h=>h
 | v::r,o,w,h=>ah.setCells_other hb r (o+1) _ (h.set_other hb _)
theorem Below.setCells {K B:Nat} {u:ϖ} (hK:K<=B):∀(vs:List ϗ)(o:Nat)(w:ϖ),Below K u w->Below K u (w.setCells B o vs)
 | [],_,_,h=>h
 | v::r,o,w,h=>Below.setCells hK r (o+1) _ (h.setCell hK _)
theorem ey (B:Nat):∀(vs:List ϗ)(o:Nat)(w:ϖ),(w.setCells B o vs).heap.size=w
 | [],_,_=>rfl
 | v::r,o,w=>by rw[World.setCells,ey B r];simp[World.setCell]
theorem dZ {P:Program} {IA:Array Oper} {rest:List Oper} {op:Oper} {a:Act} {w:ϖ} {Q:Exit->Act->ϖ->Prop} (ty:TypeId)(x y:Operand)(B:Nat)(cs cs':Array ϗ)(t:TypeId)
  (Ld:op.guard=none) (ho:op.op=.store ty x y) (hx:a.eval x=B) (hy:a.eval y=φ cs') (hB:ah w B cs t) (Kw:cs'.size=cs.size) (hi:(P.info? ty).map (·.size)=some cs'.size) (h1:cs'.all (·.oneCell')=true)
  (h:∀w',ah w' B cs' t->(∀(K:Nat) (u:ϖ),K<=B->Below K u w->Below K u w')->(∀(b:Nat) (c:Array ϗ) (s:TypeId),b≠B->ah w b c s->ah w' b c s)->w'.heap.size=w->wpList P IA Q rest (a.put op.dst undef) w'):wpList P IA Q (op::rest) a w:=by
 refine wpList_store_mid Ld ty x y ho B 0 cs' hx hy (λj hj=>?_) hi h1 ?_
 ·refine⟨?_,hB.frozen _⟩;rw[hB.cell,Nat.zero_add,Array.getElem?_eq_getElem ρa];rfl
 ·have hb:=ah.setCells cs'.toList 0 w cs hB;rw[qE cs cs' Kw] at hb;exact ηz
theorem eI {P:Program} {IA:Array Oper} {rest:List Oper} {op:Oper} {a:Act} {w:ϖ} {Q:Exit->Act->ϖ->Prop} (ty:TypeId)(x:Operand)(B:Nat)(cs:Array ϗ)(t:TypeId)(d:TypeDesc)
  (Ld:op.guard=none) (ho:op.op=.load ty x) (hx:a.eval x=B) (hB:ah w B cs t) (hu:P.underlying ty=some d) (hd:d.isRow=true) (hi:(P.info? ty).map (·.size)=some cs.size)
  (h:wpList P IA Q rest (a.put op.dst (φ cs)) w):wpList P IA Q (op::rest) a w:=by
 refine wpList_load_mid Ld ty x ho B 0 hx cs.toList d (λj v hj=>?_) hu hd τk σL;rw[hB.cell,Nat.zero_add];simpa using hj
theorem bJ {P:Program} {fn:Func} {s:Tmp} {T:TypeId} (B:Nat)(cs:Array ϗ)(t:TypeId)(d:TypeDesc)(tmps:Array ϗ)(w:ϖ)
  (h:fn.results=#[.cell s T]) (hx:tmps.getD s undef=B) (hB:ah w B cs t) (hu:P.underlying T=some d) (hd:d.isRow=true) (hi:(P.info? T).map (·.size)=some cs.size):(results fn tmps).run P w=.ok (φ cs) w:=by
 have hl:=run_loadVar_mid (P:=P) w B 0 T cs.toList d (λj v hj=>by rw[hB.cell,Nat.zero_add];simpa using hj) hu hd τk;simp only[results,h];have Vq:tmps[s]?.getD undef=ψ B:=by simpa [Array.getD_eq_getD_getElem?] using hx
 simp[Sem.run_bind,Result.andThen,Vq,asAddr,hl]
structure aG where
 pos:Int
 id:Int
deriving DecidableEq
structure ay where
 key:aG
 val:aG
deriving DecidableEq
def aG.lt (a b:aG):Prop:=a.pos<b.pos\/a.pos=b.pos/\a.id<b.id
instance (a b:aG):Decidable (a.lt b):=by unfold aG.lt;infer_instance
theorem aG.lt_irrefl (a:aG):¬a.lt a:=by unfold aG.lt;omega
theorem aG.lt_trans {a b c:aG} (h:a.lt b)(g:b.lt c):a.lt c:=by unfold aG.lt at*;omega
theorem aG.lt_or (a b:aG):a.lt b\/a=b\/b.lt a:=by rcases a with ⟨p,i⟩;rcases b with ⟨q,j⟩;simp only[aG.lt,aG.mk.injEq];omega
inductive AT where
 | nil:AT
 | node (l:AT) (i:ay) (r:AT):AT
namespace AT
def high:AT->Int
 | nil=>0
 | node l _ r=>1+max l.high r.high
def many:AT->Int
 | nil=>0
 | node l _ r=>1+l.many+r.many
def items:AT->List ay
 | nil=>[]
 | node l i r=>l.items++i::r.items
def better (a b:ay):ay:=if b.val.lt a.val\/b.val=a.val/\b.key.lt a.key then b else a
def leastOf (l:Option ay)(i:ay)(r:Option ay):ay:=
 let a:=match l with|some x=>better i x|none=>i
 match r with|some x=>better a x|none=>a
def least:AT->Option ay
 | nil=>none
 | node l i r=>some (leastOf l.least i r.least)
def bal (l:AT)(i:ay)(r:AT):AT:=
 if r.high+1<l.high then
  match l with
  | node ll li lr=>
   if ll.high<lr.high then
    match lr with
    | node a j b=>node (node ll li a) j (node b i r)
    | nil=>node l i r
   else node ll li (node lr i r)
  | nil=>node l i r
 else if l.high+1<r.high then
  match r with
  | node rl ri rr=>
   if rr.high<rl.high then
    match rl with
    | node a j b=>node (node l i a) j (node b ri rr)
    | nil=>node l i r
   else node (node l i rl) ri rr
  | nil=>node l i r
 else node l i r
theorem items_bal (l:AT)(i:ay)(r:AT):(bal l i r).items=l.items++i::r.items:=by
 unfold bal;split
 ·split
  ·split
   ·split<;>simp[items]
   ·simp[items]
  ·simp[items]
 ·split
  ·split
   ·split
    ·split<;>simp[items]
    ·simp[items]
   ·simp[items]
  ·simp[items]
def first:AT->ay->ay
 | nil,d=>d
 | node l i _,_=>l.first i
def ins:AT->ay->AT
 | nil,x=>node nil x nil
 | node l i r,x=>if i.key=x.key then node l i r else if i.key.lt x.key then bal l i (r.ins x) else bal (l.ins x) i r
def del:AT->aG->AT
 | nil,_=>nil
 | node l i r,k=>
  if i.key=k then
   match r with
   | nil=>l
   | node rl ri rr=>bal l (rl.first ri) (del (node rl ri rr) (rl.first ri).key)
  else if i.key.lt k then bal l i (del r k) else bal (del l k) i r
def Ord (t:AT):Prop:=t.items.Pairwise (λa b=>a.key.lt b.key)
theorem ord_node {l:AT} {i:ay} {r:AT}:Ord (node l i r)↔Ord l/\Ord r/\(∀x ∈ l.items,x.key.lt i.key)/\∀x ∈ r.items,i.key.lt x.key:=by
 unfold Ord;simp only[items,List.pairwise_append,List.pairwise_cons,ZC];constructor
 ·rintro⟨h1,⟨h2,h3⟩,h4⟩;exact⟨h1,h3,λx hx=>h4 x hx i (Or.inl rfl),h2⟩
 ·rintro⟨h1,h3,h4,h2⟩;refine⟨h1,⟨h2,h3⟩,λx hx y hy=>?_⟩;rcases hy with rfl|hy
  ·exact h4 x hx
  ·exact aG.lt_trans (h4 x hx) (h2 y hy)
theorem tY {l:AT} {i:ay} {r:AT}:Ord (bal l i r)↔Ord (node l i r):=by unfold Ord;rw[items_bal];rfl
theorem mem_ins (t:AT)(x:ay)(h:∀y ∈ t.items,y.key≠x.key):∀y,y ∈ (t.ins x).items↔y=x\/y ∈ t.items:=by
 induction t with
 | nil=>intro y;simp[ins,items]
 | node l i r hl hr=>
  have h0:i.key≠x.key:=h i (by simp[items]);have h1:=hl (λy hy=>h y (by simp[items,hy]));have h2:=hr (λy hy=>h y (by simp[items,hy]));intro y;simp only[ins,ZI h0];split
  ·rw[items_bal];simp only[items,ZM,ZC,h2];grind
  ·rw[items_bal];simp only[items,ZM,ZC,h1];grind
theorem ord_ins (t:AT)(x:ay)(o:Ord t)(h:∀y ∈ t.items,y.key≠x.key):Ord (t.ins x):=by
 induction t with
 | nil=>simp[ins,Ord,items]
 | node l i r hl hr=>
  have h0:i.key≠x.key:=h i (by simp[items]);have g1:∀y ∈ l.items,y.key≠x.key:=λy hy=>h y (by simp[items,hy]);have g2:∀y ∈ r.items,y.key≠x.key:=λy hy=>h y (by simp[items,hy]);obtain⟨o1,o2,o3,o4⟩:=ord_node.1 o;simp only[ins,ZI h0];split
  next IJ=>
   rw[tY,ord_node];refine⟨o1,hr o2 g2,o3,λy hy=>?_⟩;rcases(mem_ins r x g2 y).1 hy with rfl|hy
   ·exact IJ
   ·exact o4 y hy
  next IJ=>
   rw[tY,ord_node];refine⟨hl o1 g1,o2,λy hy=>?_,o4⟩;rcases(mem_ins l x g1 y).1 hy with rfl|hy
   ·rcases aG.lt_or i.key y.key with q|q|q
    ·exact ax q IJ
    ·exact ax q h0
    ·exact q
   ·exact o3 y hy
theorem pI (t:AT):∀d,(t.items=[]/\t.first d=d)\/∃l,t.items=t.first d::l:=by
 induction t with
 | nil=>intro d;exact Or.inl ⟨rfl,rfl⟩
 | node l i r hl hr=>
  intro d;right;rcases hl i with ⟨e,f⟩|⟨z,e⟩
  ·exact⟨r.items,by simp[items,first,e,f]⟩
  ·exact⟨z++i::r.items,by simp only[items,first];rw[e];simp⟩
theorem first_node (l:AT)(i:ay)(r:AT):∃z,(node l i r).items=l.first i::z:=by
 rcases pI l i with ⟨e,f⟩|⟨z,e⟩
 ·exact⟨r.items,by simp[items,e,f]⟩
 ·exact⟨z++i::r.items,by simp only[items];rw[e];simp⟩
theorem cH (L:List ay)(k:aG)(h:∀y ∈ L,y.key≠k):L.filter (λy=>decide (y.key≠k))=L:=
 List.filter_eq_self.2 (λy hy=>by simpa using h y hy)
theorem del_items (t:AT):∀k,Ord t->(∃y ∈ t.items,y.key=k)->(t.del k).items=t.items.filter (λy=>decide (y.key≠k)):=by
 induction t with
 | nil=>intro k _ h;simp[items] at h
 | node l i r hl hr=>
  intro k o h;obtain⟨o1,o2,o3,o4⟩:=ord_node.1 o;unfold del;split
  next e=>
   have kl:∀y ∈ l.items,y.key≠k:=λy hy q=>aG.lt_irrefl k (by have:=o3 y hy;rw[q,e] at this;exact this);have kr:∀y ∈ r.items,y.key≠k:=λy hy q=>aG.lt_irrefl k (by have:=o4 y hy;rw[q,e] at this;exact this);split
   ·simp[items,e,cH l.items k kl];exact(by simpa using cH l.items k kl:List.filter (λy=>!decide (y.key=k)) l.items=l.items).symm
   ·rename_i rl ri rr;rw[items_bal];obtain⟨z,hz⟩:=first_node rl ri rr;rw[hr _ o2 ⟨rl.first ri,by rw[hz];simp,rfl⟩];unfold Ord at o2;rw[hz] at o2;have o6:∀y ∈ z,y.key≠(rl.first ri).key:=λy hy q=>by
     have:=(List.pairwise_cons.1 o2).1 y hy;rw[q] at this;exact aG.lt_irrefl _ this
    have e5:(node l i (node rl ri rr)).items=l.items++i::(node rl ri rr).items:=rfl;rw[e5,List.filter_append,cH _ _ kl,List.filter_cons,ZI (by simp[e]),cH _ _ kr,hz,List.filter_cons,ZI ρp,cH _ _ o6]
  next e=>
   have e5:(node l i r).items=l.items++i::r.items:=rfl;split
   next IJ=>
    have kl:∀y ∈ l.items,y.key≠k:=λy hy q=>by have:=o3 y hy;rw[q] at this;exact aG.lt_irrefl _ (aG.lt_trans this IJ)
    rw[items_bal,hr k o2 (by
     obtain⟨y,hy,q⟩:=h;rw[e5] at hy;simp only[ZM,ZC] at hy;rcases hy with hy|rfl|hy
     ·exact ax q (kl y hy)
     ·exact ax q e
     ·exact⟨y,hy,q⟩)]
    rw[e5,List.filter_append,cH _ _ kl,List.filter_cons,ZP (by simp[e])]
   next IJ=>
    have hgt:k.lt i.key:=by
     rcases aG.lt_or i.key k with q|q|q
     ·exact ax q IJ
     ·exact ax q e
     ·exact q
    have kr:∀y ∈ r.items,y.key≠k:=λy hy q=>by have:=o4 y hy;rw[q] at this;exact aG.lt_irrefl _ (aG.lt_trans this hgt)
    rw[items_bal,hl k o1 (by
     obtain⟨y,hy,q⟩:=h;rw[e5] at hy;simp only[ZM,ZC] at hy;rcases hy with hy|rfl|hy
     ·exact⟨y,hy,q⟩
     ·exact ax q e
     ·exact ax q (kr y hy))]
    rw[e5,List.filter_append,List.filter_cons,ZP (by simp[e]),cH _ _ kr]
theorem ord_del (t:AT)(k:aG)(o:Ord t)(h:∃y ∈ t.items,y.key=k):Ord (t.del k):=by unfold Ord;rw[del_items t k o h];exact List.Pairwise.filter _ o
def NoB (b a:ay):Prop:=¬(b.val.lt a.val\/b.val=a.val/\b.key.lt a.key)
theorem wX (a:ay):NoB a a:=by unfold NoB;intro h;rcases h with h|⟨_,h⟩<;>exact aG.lt_irrefl _ h
theorem m8 {a b c:ay} (h:NoB c b)(g:NoB b a):NoB c a:=by rcases a with ⟨⟨a1,a2⟩,⟨a3,a4⟩⟩;rcases b with ⟨⟨b1,b2⟩,⟨b3,b4⟩⟩;rcases c with ⟨⟨c1,c2⟩,⟨c3,c4⟩⟩;simp only[NoB,aG.lt,aG.mk.injEq] at*;omega
theorem uE (a b:ay):better a b=a\/better a b=b:=by unfold better;split<;>simp
theorem wW (a b:ay):NoB a (better a b):=ηq
theorem vf (a b:ay):NoB b (better a b):=ηq
def jz (S:ay->Prop)(o:Option ay):Prop:=match o with
 | none=>∀y,¬S y
 | some x=>S x/\∀y,S y->NoB y x
def takeO (a b:Option ay):Option ay:=match a,b with
 | none,b=>b
 | some x,none=>some x
 | some x,some y=>some (better x y)
theorem iC {S T:ay->Prop} {a b:Option ay} (h:jz S a)(g:jz T b):jz (λy=>S y\/T y) (takeO a b):=by
 cases a with
 | none=>
  cases b with
  | none=>exact λy hy=>hy.elim (h y) (g y)
  | some y=>exact⟨Or.inr g.1,λz hz=>hz.elim (λq=>ax q (h z)) (g.2 z)⟩
 | some x=>
  cases b with
  | none=>exact⟨Or.inl h.1,λz hz=>hz.elim (h.2 z) (λq=>ax q (g z))⟩
  | some y=>
   refine⟨?_,λz hz=>?_⟩
   ·rcases uE x y with q|q<;>simp only[q]
    ·exact Or.inl h.1
    ·exact Or.inr g.1
   ·rcases hz with hz|hz
    ·exact m8 (h.2 z hz) (wW x y)
    ·exact m8 (g.2 z hz) (vf x y)
theorem pw (x:ay):jz (λy=>y=x) (some x):=⟨rfl,λy hy=>by rw[hy];exact wX x⟩
theorem jz.iff {S T:ay->Prop} {o:Option ay} (h:jz S o)(e:∀y,S y↔T y):jz T o:=by have:S=T:=funext λy=>propext (e y);rw[<- this];exact h
theorem sq (l:AT)(i:ay)(r:AT):(node l i r).least=takeO (takeO (some i) l.least) r.least:=by simp only[least,leastOf];cases l.least<;>cases r.least<;>rfl
theorem kY (t:AT):jz (λy=>y ∈ t.items) t.least:=by
 induction t with
 | nil=>intro y;simp[items]
 | node l i r hl hr=>rw[sq];refine(iC (iC (pw i) hl) hr).iff λy=>?_;simp only[items,ZM,ZC];grind
def belowAcc:AT->Int->Option ay->Option ay
 | nil,_,acc=>acc
 | node l i r,p,acc=>if p<i.key.pos then belowAcc l p acc else belowAcc r p (takeO (takeO acc (some i)) l.least)
theorem rE (t:AT)(p:Int)(o:Ord t):∀{S:ay->Prop} {acc:Option ay},jz S acc->jz (λy=>S y\/y ∈ t.items/\y.key.pos<=p) (t.belowAcc p acc):=by
 induction t with
 | nil=>intro S acc h;exact h.iff (λy=>by simp[items])
 | node l i r hl hr=>
  intro S acc h;obtain⟨o1,o2,o3,o4⟩:=ord_node.1 o;have e5:(node l i r).items=l.items++i::r.items:=rfl;unfold belowAcc;split
  next hp=>
   refine(hl o1 h).iff λy=>?_;rw[e5];simp only[ZM,ZC];have:∀y ∈ r.items,p<y.key.pos:=λy hy=>by have:=o4 y hy;unfold aG.lt at this;omega
   constructor
   ·rintro(q|⟨q,g⟩)
    ·exact Or.inl q
    ·exact Or.inr ⟨Or.inl q,g⟩
   ·rintro(q|⟨q|rfl|q,g⟩)
    ·exact Or.inl q
    ·exact Or.inr ⟨q,g⟩
    ·omega
    ·have:=this y q;omega
  next hp=>
   refine(hr o2 (iC (iC h (pw i)) (kY l))).iff λy=>?_;rw[e5];simp only[ZM,ZC];have:∀y ∈ l.items,y.key.pos<=p:=λy hy=>by have:=o3 y hy;unfold aG.lt at this;omega
   constructor
   ·rintro(((q|rfl)|q)|⟨q,g⟩)
    ·exact Or.inl q
    ·exact Or.inr ⟨Or.inr (Or.inl rfl),by omega⟩
    ·exact Or.inr ⟨Or.inl q,this y q⟩
    ·exact Or.inr ⟨Or.inr (Or.inr q),g⟩
   ·rintro(q|⟨q|rfl|q,g⟩)
    ·exact Or.inl (Or.inl (Or.inl q))
    ·exact Or.inl (Or.inr q)
    ·exact Or.inl (Or.inl (Or.inr rfl))
    ·exact Or.inr ⟨q,g⟩
def bestTo (t:AT)(p:Int):Option ay:=t.belowAcc p none
theorem best_bestTo (t:AT)(p:Int)(o:Ord t):jz (λy=>y ∈ t.items/\y.key.pos<=p) (t.bestTo p):=
 (rE t p o (S:=λ_=>False) (acc:=none) (λ_ h=>h)).iff (λy=>by simp)
def hasAt (t:AT)(p:Int):Bool:=match t.least with|none=>false|some x=>decide (x.val.pos<=p)
theorem hasAt_iff (t:AT)(p:Int):t.hasAt p=true↔∃y ∈ t.items,y.val.pos<=p:=by
 have h:=kY t;unfold hasAt;cases e:t.least with
 | none=>rw[e] at h;simp only[jz] at h;simp;intro y hy;exact ax hy (h y)
 | some x=>rw[e] at h;simp only[jz] at h;simp only[decide_eq_true_eq];refine⟨λq=>⟨x,h.1,q⟩,λ⟨y,hy,q⟩=>?_⟩;have:=h.2 y hy;simp only[NoB,aG.lt] at this;omega
def firstAt:AT->Int->Option ay
 | nil,_=>none
 | node l i r,p=>if l.hasAt p then l.firstAt p else if i.val.pos<=p then some i else r.firstAt p
def yN (t:AT)(p:Int)(f:Option ay):Prop:=match f with
 | none=>∀y ∈ t.items,p<y.val.pos
 | some x=>x ∈ t.items/\x.val.pos<=p/\∀y ∈ t.items,y.val.pos<=p->¬y.key.lt x.key
theorem firstAt_spec (t:AT)(p:Int)(o:Ord t):yN t p (t.firstAt p):=by
 induction t with
 | nil=>intro y hy;simp[items] at hy
 | node l i r hl hr=>
  obtain⟨o1,o2,o3,o4⟩:=ord_node.1 o;have e5:(node l i r).items=l.items++i::r.items:=rfl;unfold firstAt;by_cases hh:l.hasAt p=true
  ·rw[ZP hh];have hl:=hl o1;obtain⟨y,hy,q⟩:=(hasAt_iff l p).1 hh;cases e:l.firstAt p with
   | none=>rw[e] at hl;have:=hl y hy;omega
   | some x=>
    rw[e] at hl;refine⟨by rw[e5];simp[hl.1],hl.2.1,λz hz g=>?_⟩;rw[e5] at hz;simp only[ZM,ZC] at hz;rcases hz with hz|rfl|hz
    ·exact hl.2.2 z hz g
    ·have:=o3 x hl.1;unfold aG.lt at*;omega
    ·have:=o3 x hl.1;have:=o4 z hz;unfold aG.lt at*;omega
  ·rw[ZI hh];have no:∀y ∈ l.items,p<y.val.pos:=λy hy=>by
    rcases Int.lt_or_le p y.val.pos with q|q
    ·exact q
    ·exact ax ((hasAt_iff l p).2 ⟨y,hy,q⟩) hh
   by_cases hi:i.val.pos<=p
   ·rw[ZP hi];refine⟨by rw[e5];simp,hi,λz hz g=>?_⟩;rw[e5] at hz;simp only[ZM,ZC] at hz;rcases hz with hz|rfl|hz
    ·have:=no z hz;omega
    ·exact aG.lt_irrefl _
    ·have:=o4 z hz;unfold aG.lt at*;omega
   ·rw[ZI hi];have hr:=hr o2;cases e:r.firstAt p with
    | none=>
     rw[e] at hr;intro z hz;rw[e5] at hz;simp only[ZM,ZC] at hz;rcases hz with hz|rfl|hz
     ·exact no z hz
     ·omega
     ·exact hr z hz
    | some x=>
     rw[e] at hr;refine⟨by rw[e5];simp[hr.1],hr.2.1,λz hz g=>?_⟩;rw[e5] at hz;simp only[ZM,ZC] at hz;rcases hz with hz|rfl|hz
     ·have:=no z hz;omega
     ·omega
     ·exact hr.2.2 z hz g
theorem many_items (t:AT):t.many=t.items.length:=by
 induction t with
 | nil=>rfl
 | node l i r hl hr=>simp only[many,items,ZL,mM,hl,hr];omega
theorem high_nonneg (t:AT):0<=t.high:=by
 induction t with
 | nil=>simp[high]
 | node l i r hl hr=>simp only[high];omega
theorem high_le (t:AT):t.high<=t.many:=by
 induction t with
 | nil=>simp[high,many]
 | node l i r hl hr=>have:=many_items l;have:=many_items r;simp only[high,many];omega
end AT
abbrev rk (k:aG):ϗ:=φ #[ι υ k.pos,ι ε k.id]
theorem xK (d:Nat)(a b:aG)(v:ϖ):(Op.equalIn (d+2) 333 (rk a) (rk b)).run Ψ v=.ok (decide (a=b)) v:=by
 have hu:∀w,(isAgg 39).run Ψ w=.ok false w:=λ_=>by kernel_rfl
 have hu2:∀w,(isAgg 3).run Ψ w=.ok false w:=λ_=>by kernel_rfl
 have h2:∀(w:ϖ) (x y:Int),(Op.equalIn (d+1) 39 x y).run Ψ w=.ok (x==y) w:=λw x y=>run_equalIn_int _ _ _ _ _ _ _ Ξ;have h3:∀(w:ϖ) (x y:Int),(Op.equalIn (d+1) 3 (ι ε x) (ι ε y)).run Ψ w=.ok (x==y) w:=λw x y=>run_equalIn_int _ _ _ _ _ _ _ Θ;have hs:∀w,(sizeOf 39).run Ψ w=.ok 1 w:=λ_=>by kernel_rfl
 have Ja:∀w,(sizeOf 3).run Ψ w=.ok 1 w:=λ_=>by kernel_rfl
 rw[run_equalIn_struct _ (d+1) 333 _ _ ρh ρh];have e:(a.pos==b.pos && a.id==b.id)=decide (a=b):=by rw[Bool.eq_iff_iff];rcases a with ⟨a1,a2⟩;rcases b with ⟨b1,b2⟩;simp
 rw[<- e];simp[Program.fieldsOf,Tryz.underlying333,go_sem,part,hu,hu2,hs,Ja,h2,h3];by_cases h1:a.pos=b.pos<;>by_cases h4:a.id=b.id<;>simp[h1,h4]
theorem xJ (a b:aG)(c:Bool)(hc:decide (a=b)=c)(v:ϖ):(binOp .eql 333 (rk a) (rk b)).run Ψ v=.ok (β c) v:=by rw[run_eql_struct,<- hc];have:=xK 9998 a b v;rw[show (Op.equalIn 10000 333 (rk a) (rk b)).run Ψ v=.ok (decide (a=b)) v from this];rfl
def mD (a b:aG):Int:=if a=b then 0 else if a.lt b then -1 else 1
theorem iM (a b:aG)(c:Int)(w:ϖ)(hc:mD a b=c):CB 277 #[rk a,rk b] w (ι ε c):=by
 subst hc;unfold mD;by_cases h:a=b
 ·rw[ZP h];have e0:=xJ a b true (ZT h);clear h;exact ξV
 ·rw[ZI h];have e0:=xJ a b false (ZF h);have hl:a.lt b↔a.pos<b.pos\/a.pos=b.pos/\a.id<b.id:=Iff.rfl;by_cases h1:a.pos<b.pos
  ·rw[ZP (hl.2 (.inl h1))];have d1:=ZT h1;clear h hl h1;exact ξV
  ·have d1:=ZF h1;by_cases h2:a.pos=b.pos
   ·have d2:(a.pos==b.pos)=true:=beq_iff_eq.2 h2;by_cases h3:a.id<b.id
    ·rw[ZP (hl.2 (.inr ⟨h2,h3⟩))];have d3:=ZT h3;clear h hl h1 h2 h3;exact ξV
    ·rw[ZI (λq=>by rcases hl.1 q with q|q<;>omega)];have d3:=ZF h3;clear h hl h1 h2 h3;exact ξV
   ·rw[ZI (λq=>by rcases hl.1 q with q|q<;>omega)];have d2:(a.pos==b.pos)=false:=ZN.2 h2;clear h hl h1 h2;exact ξV
section
variable {H:Type} {P:Program} {w:ϖ} {base:Nat} {Jp:Nat->Bool} {JP:Bool} {enc:TypeId × ϗ->H}
end
abbrev ik (k:Int):ϗ:=ι ε k
def lk (k:Int):List (Int × ϗ)->Option ϗ
 | []=>none
 | (j,v)::r=>if k=j then some v else lk k r
def dH (k:Int)(v:ϗ):List (Int × ϗ)->List (Int × ϗ)
 | []=>[(k,v)]
 | (j,u)::r=>if k=j then (k,v)::r else (j,u)::dH k v r
def dF (k:Int)(L:List (Int × ϗ)):List (Int × ϗ):=L.filter (λp=>decide (p.1≠k))
def gJ (es:List MapEntry)(L:List (Int × ϗ)):Prop:=es.map (λe=>(e.key,e.val))=L.map (λp=>(ik p.1,p.2))
def aA (w:ϖ)(M:Nat)(L:List (Int × ϗ)):Prop:=∃(es:Array MapEntry)(IU:Nat),w.heap[M]?=some (.map es IU)/\gJ es.toList L/\MapKept.Stamped es IU
theorem aA.of_eq {w v:ϖ} {M:Nat} {L:List (Int × ϗ)} (h:aA w M L)(e:v.heap[M]?=w.heap[M]?):aA v M L:=by obtain⟨es,c,hb,hs⟩:=h;exact⟨es,c,e.trans hb,hs⟩
theorem aA.size {w:ϖ} {M:Nat} {L:List (Int × ϗ)} (h:aA w M L):M<w:=by obtain⟨es,c,hb,_⟩:=h;exact(Array.getElem?_eq_some_iff.1 hb).1
theorem aA.below {w v:ϖ} {M:Nat} {L:List (Int × ϗ)} (h:aA w M L)(hb:Below w w v):aA v M L:=h.of_eq (hb.block M h.size)
instance {w M L}:Mv (aA w M L) w (λv'=>aA v' M L):=⟨λk h=>aA.below h k⟩
theorem aA.ko {w v:ϖ} {F:Nat->Prop} {M:Nat} {L:List (Int × ϗ)} (h:aA w M L)(k:KO F w v)(hF:¬F M):aA v M L:=h.of_eq (k.block M h.size hF)
theorem qy {es:List MapEntry} {L:List (Int × ϗ)} (h:gJ es L)(i:Nat):es[i]?.map (λe=>(e.key,e.val))=L[i]?.map (λp=>(ik p.1,p.2)):=by have:=ZG (λl=>l[i]?) h;simpa [List.getElem?_map] using this
theorem vB {e:MapEntry} {es:List MapEntry} {L:List (Int × ϗ)} (h:gJ (e::es) L):∃p R,L=p::R/\e.key=ik p.1/\e.val=p.2/\gJ es R:=by
 cases L with
 | nil=>simp[gJ] at h
 | cons p R=>simp only[gJ,gY,List.cons.injEq,Prod.mk.injEq] at h;exact⟨p,R,rfl,h.1.1,h.1.2,h.2⟩
def eE (k:Int):List (Int × ϗ)->Nat->Option (Nat × ϗ)
 | [],_=>none
 | (j,v)::r,i=>if k=j then some (i,v) else eE k r (i+1)
theorem iG (k:Int):∀(L:List (Int × ϗ))(es:List MapEntry)(i:Nat),gJ es L->Instr.findNow (.int .i64) (ik k) es i=some (eE k L i)
 | [],es,i,h=>by
  have:es=[]:=by unfold gJ at h;simpa using h
  subst this;rfl
 | p::L,es,i,h=>by
  cases es with
  | nil=>simp[gJ] at h
  | cons e es=>
   obtain⟨q,R,hq,hk,hv,hs⟩:=vB h;cases hq
   have ih:=iG k L es (i+1) hs;obtain⟨j,v⟩:=p;simp only at hk hv;unfold Instr.findNow eE;rw[hk];by_cases e1:k=j
   ·simp[Instr.sameNow,e1,hv]
   ·have:(k==j)=false:=by simpa using e1
    simp[Instr.sameNow,this,e1,ih]
theorem pH (k:Int):∀(L:List (Int × ϗ))(i:Nat),(eE k L i).map (·.2)=lk k L
 | [],_=>rfl
 | (j,v)::r,i=>by unfold eE lk;split<;>simp[pH k r (i+1)]
theorem gD (k:Int):∀(L:List (Int × ϗ))(i:Nat),eE k L i=none↔lk k L=none
 | [],_=>by simp[eE,lk]
 | (j,v)::r,i=>by unfold eE lk;split<;>simp[gD k r (i+1)]
theorem gE (k:Int):∀(L:List (Int × ϗ))(j i:Nat)(v:ϗ),eE k L j=some (i,v)->∃n,i=j+n/\L[n]?=some (k,v)
 | [],j,i,v,h=>by simp[eE] at h
 | (q,u)::r,j,i,v,h=>by
  unfold eE at h;by_cases e:k=q
  ·rw[ZP e] at h;simp at h;obtain⟨rfl,rfl⟩:=h;exact⟨0,rfl,by simp[e]⟩
  ·rw[ZI e] at h;obtain⟨n,h1,h2⟩:=gE k r (j+1) i v h;exact⟨n+1,by omega,by simpa using h2⟩
theorem t7 (k:Int)(v:ϗ):∀(L:List (Int × ϗ)),lk k L=none->dH k v L=L++[(k,v)]
 | [],_=>rfl
 | (j,u)::r,h=>by
  unfold lk at h;by_cases e:k=j
  ·rw[ZP e] at h;cases h
  ·rw[ZI e] at h;unfold dH;rw[ZI e,t7 k v r h];rfl
theorem t8 (k:Int)(v:ϗ):∀(L:List (Int × ϗ))(j i:Nat)(u:ϗ),eE k L j=some (i,u)->dH k v L=L.set (i - j) (k,v)
 | [],j,i,u,h=>by simp[eE] at h
 | (q,x)::r,j,i,u,h=>by
  unfold eE at h;by_cases e:k=q
  ·rw[ZP e] at h;simp at h;obtain⟨rfl,_⟩:=h;unfold dH;rw[ZP e,Nat.sub_self];rfl
  ·rw[ZI e] at h;obtain⟨n,h1,_⟩:=gE k r (j+1) i u h;have:=t8 k v r (j+1) i u h;unfold dH;rw[ZI e,this];rw[show i - j=(i - (j+1))+1 by omega];rfl
theorem fh (k j:Int)(v:ϗ):∀(L:List (Int × ϗ)),lk j (dH k v L)=if j=k then some v else lk j L
 | []=>by unfold dH lk;split<;>simp[lk]
 | (q,u)::r=>by
  unfold dH;by_cases e:k=q
  ·rw[ZP e];subst e;unfold lk;split<;>simp_all
  ·rw[ZI e];unfold lk;rw[fh k j v r];by_cases h1:j=q
   ·rw[ZP h1,ZP h1,ZI (by intro h;exact e (h.symm.trans h1))]
   ·rw[ZI h1,ZI h1]
theorem i6 (k j:Int):∀(L:List (Int × ϗ)),lk j (dF k L)=if j=k then none else lk j L
 | []=>by simp[dF,lk]
 | (q,u)::r=>by
  have ih:=i6 k j r;unfold dF at*;by_cases e:q=k
  ·rw[List.filter_cons,ZI (by simp[e]),ih];by_cases h1:j=k
   ·simp[h1]
   ·rw[ZI h1,ZI h1];conv=>rhs;unfold lk;rw[ZI (by rw[e];exact h1)]
  ·rw[List.filter_cons,ZP (by simp[e])];unfold lk;rw[ih];by_cases h1:j=q
   ·rw[ZP h1,ZP h1,ZI (by rw[h1];exact e)]
   ·rw[ZI h1,ZI h1]
theorem wT {k:Int} {v:ϗ}:∀{L:List (Int × ϗ)},(L.map (·.1)).Nodup->(k,v) ∈ L->lk k L=some v
 | [],_,h=>by simp at h
 | (j,u)::r,hn,h=>by
  simp only[gY,ZD] at hn;unfold lk;rcases ZC.1 h with h|h
  ·cases h;rw[ZP rfl]
  ·rw[ZI (λe=>hn.1 (by rw[<- e];exact List.mem_map.2 ⟨_,h,rfl⟩))];exact wT hn.2 h
theorem nr {es:List MapEntry} {L:List (Int × ϗ)} (h:gJ es L):es.map (·.key)=L.map (λp=>ik p.1):=by have:=ZG (List.map Prod.fst) h;rw[List.map_map,List.map_map] at this;exact this
theorem aA.nodup {w:ϖ} {M:Nat} {L:List (Int × ϗ)} (h:aA w M L):(L.map (·.1)).Nodup:=by obtain⟨es,c,hb,hs,_,_,hk⟩:=h;rw[nr hs] at hk;have:(L.map λp=>ik p.1)=(L.map (·.1)).map ik:=ρp;rw[this] at hk;unfold List.Nodup at*;rw[List.pairwise_map] at hk;exact hk.imp (λq e=>q (by rw[e]))
section
theorem am {P:Program} {T K E:TypeId} (hT:P.underlying T=some (.map K E))(hK:P.underlying K=some (.int .i64)) {w:ϖ} {M:Nat} {L:List (Int × ϗ)} (h:aA w M L)(k:Int) {z:ϗ} (hz:∀v,(zeroValue E).run P v=.ok z v):
  (Instr.lookup T (.map (some M)) (ik k) true).run P w=.ok (χ #[(lk k L).getD z,β (lk k L).isSome]) w/\(Instr.lookup T (.map (some M)) (ik k) false).run P w=.ok ((lk k L).getD z) w:=by
 obtain⟨es,IU,hb,hs,_⟩:=h;have hf:=iG k L es.toList 0 hs;have hl:=pH k L 0;refine δY ?_;intro hc;constructor
 all_goals
  unfold Instr.lookup;simp only[Sem.run_bind,run_underlying hT,Result.andThen,MapKept.run_getObj_map hb,Sem.run_pure,hc,MapKept.run_findKey hK hf];cases hq:eE k L 0 with
  | none=>rw[hq] at hl;simp[<- hl,hz,Result.andThen]
  | some p=>rw[hq] at hl;simp[<- hl,Result.andThen]
theorem bz {P:Program} {T K E:TypeId} (hT:P.underlying T=some (.map K E))(hK:P.underlying K=some (.int .i64)) {w:ϖ} {M:Nat} {L:List (Int × ϗ)} (h:aA w M L)(k:Int)(v:ϗ):∃w',(Instr.mapUpdate T (.map (some M)) (ik k) v).run P w=.ok () w'/\aA w' M (dH k v L)/\KO (λx=>x=M) w w'/\w'.heap.size=w:=by
 obtain⟨es,IU,hb,hs,JY⟩:=h;have hf:=iG k L es.toList 0 hs;refine δY ?_;intro hc;have MA:∀o,∃w':ϖ,(setObj M o).run P w=.ok () w'/\w'.heap[M]?=some o/\KO (λx=>x=M) w w'/\w'.heap.size=w:=λo=>
  ⟨_,MapKept.run_setObj_map o hb,(MapKept.heap_set hb).1,⟨rfl,rfl,rfl,by simp,λi _ hi=>(MapKept.heap_set hb).2 i hi⟩,by simp⟩
 cases hq:eE k L 0 with
 | none=>
  obtain⟨w',h1,h2,h3,h4⟩:=MA (.map (es.push {key:=ik k,val:=v,born:=IU}) (IU+1));refine⟨w',by simp[Instr.mapUpdate,run_underlying hT,MapKept.run_getObj_map hb,hc,MapKept.run_findKey hK hf,hq,h1,Result.andThen],⟨_,_,h2,?_,?_⟩,h3,h4⟩
  ·rw[t7 k v L ((gD k L 0).1 hq)];unfold gJ at*;simp[hs]
  ·refine MapKept.stamped_push JY (λx hx e=>?_);have:x.key ∈ es.toList.map (·.key):=List.mem_map.2 ⟨x,hx,rfl⟩;rw[nr hs,e] at this;obtain⟨p,hp,he⟩:=List.mem_map.1 this;have hk:p.1=k:=by simpa using he
   have hn:=(gD k L 0).1 hq;have:∀(R:List (Int × ϗ)),p ∈ R->lk k R≠none:=by
    intro R
    induction R with
    | nil=>simp
    | cons q R ih=>
     obtain⟨j,u⟩:=q;intro hm;unfold lk;split
     ·simp
     ·rename_i IX;rcases ZC.1 hm with rfl|hm
      ·exact ax hk.symm IX
      ·exact ih hm
   exact this L hp hn
 | some q=>
  obtain⟨i,u⟩:=q;obtain⟨n,hn,hi⟩:=gE k L 0 i u hq;obtain rfl:i=n:=ρa;have XW:=qy hs i;rw[hi] at XW;obtain⟨e,he,hek⟩:∃e,es[i]?=some e/\e.key=ik k:=by
   cases Kk:es[i]? with
   | none=>rw[Array.getElem?_toList,Kk] at XW;simp at XW
   | some e=>rw[Array.getElem?_toList,Kk] at XW;simp at XW;exact⟨e,rfl,XW.1⟩
  obtain⟨w',h1,h2,h3,h4⟩:=MA (.map (es.modify i λe=>{e with key:=ik k,val:=v}) IU);refine⟨w',?_,⟨_,_,h2,?_,?_⟩,h3,h4⟩
  ·have hst':=MapKept.run_keyThatStays (P:=P) (w:=w) (d:=.int .i64) (k:=ik k) ρr;simp[Instr.mapUpdate,run_underlying hT,MapKept.run_getObj_map hb,hc,MapKept.run_findKey hK hf,hq,he,hek,hst',h1,Result.andThen]
  ·rw[t8 k v L 0 i u hq,Nat.sub_zero];unfold gJ;apply List.ext_getElem?;intro j;rw[List.getElem?_map,List.getElem?_map,Array.getElem?_toList,Array.getElem?_modify,List.getElem?_set];by_cases hij:i=j
   ·subst hij;have hil:i<L.length:=(List.getElem?_eq_some_iff.1 hi).1;rw[ZP rfl,ZP rfl,ZP hil,he];simp
   ·rw[ZI hij,ZI hij,<- Array.getElem?_toList];exact qy hs j
  ·exact MapKept.stamped_modify JY i _ (λ_ _=>rfl) (λe' _ he'=>by rw[he] at he';cases he';exact hek.symm)
theorem gI {P:Program} {T K E:TypeId} (hT:P.underlying T=some (.map K E))(hK:P.underlying K=some (.int .i64)) {w:ϖ} {M:Nat} {L:List (Int × ϗ)} (h:aA w M L)(k:Int):∃w',(∀ty,(Builtin.delete_ #[T,K] ty #[.map (some M),ik k]).run P w=.ok (χ #[]) w')/\aA w' M (dF k L)/\KO (λx=>x=M) w w'/\w'.heap.size=w:=by
 have Lx:=h.nodup;obtain⟨es,IU,hb,hs,JY⟩:=h;have hf:=iG k L es.toList 0 hs;refine δY ?_;intro hc;have MA:∀o,∃w':ϖ,(setObj M o).run P w=.ok () w'/\w'.heap[M]?=some o/\KO (λx=>x=M) w w'/\w'.heap.size=w:=λo=>
  ⟨_,MapKept.run_setObj_map o hb,(MapKept.heap_set hb).1,⟨rfl,rfl,rfl,by simp,λi _ hi=>(MapKept.heap_set hb).2 i hi⟩,by simp⟩
 cases hq:eE k L 0 with
 | none=>
  obtain⟨w',h1,h2,h3,h4⟩:=MA (.map es IU);refine⟨w',λty=>by simp[Builtin.delete_,run_underlying hT,MapKept.run_getObj_map hb,hc,MapKept.run_findKey hK hf,hq,h1,Result.andThen],⟨_,_,h2,?_,JY⟩,h3,h4⟩;have:dF k L=L:=List.filter_eq_self.2 (λp hp=>by
   have hn:=(gD k L 0).1 hq;have:p.1≠k:=λe=>by have:=wT Lx (show (k,p.2) ∈ L by rw[<- e];exact hp);rw[hn] at this;cases this
   simpa using this)
  rw[this];exact hs
 | some q=>
  obtain⟨i,u⟩:=q;obtain⟨n,hn,hi⟩:=gE k L 0 i u hq;obtain rfl:i=n:=ρa;obtain⟨w',h1,h2,h3,h4⟩:=MA (.map (es.eraseIdxIfInBounds i) IU);refine⟨w',λty=>by simp[Builtin.delete_,run_underlying hT,MapKept.run_getObj_map hb,hc,MapKept.run_findKey hK hf,hq,h1,Result.andThen],⟨_,_,h2,?_,MapKept.stamped_erase JY i⟩,h3,h4⟩;have hil:i<L.length:=(List.getElem?_eq_some_iff.1 hi).1;have IS:es.size=L.length:=by have:=ZG List.length hs;simpa using this
  have PH:dF k L=L.eraseIdx i:=by
   unfold dF;have Vo:L=L.take i++(k,u)::L.drop (i+1):=by
    have:L.drop i=(k,u)::L.drop (i+1):=by rw[List.drop_eq_getElem_cons hil];congr 1;exact Option.some.inj ((List.getElem?_eq_getElem hil).symm.trans hi)
    rw[<- this,List.take_append_drop]
   have hnd':((L.take i++(k,u)::L.drop (i+1)).map (·.1)).Nodup:=by rw[<- Vo];exact Lx
   simp only[List.map_append,gY] at hnd';obtain⟨n1,n2,n3⟩:=List.nodup_append.1 hnd';have n4:=ZD.1 n2;rw[List.eraseIdx_eq_take_drop_succ]
   conv=>lhs;rw[Vo]
   rw[List.filter_append,List.filter_cons,ZI ρp]
   congr 1
   ·exact List.filter_eq_self.2 (λp hp=>by have:=n3 _ (List.mem_map.2 ⟨p,hp,rfl⟩) k (List.mem_cons_self ..);simpa using this)
   ·exact List.filter_eq_self.2 (λp hp=>by have:p.1≠k:=λe=>n4.1 (by rw[<- e];exact List.mem_map.2 ⟨p,hp,rfl⟩);simpa using this)
  rw[PH];unfold Array.eraseIdxIfInBounds;rw[dif_pos ρa];unfold gJ at*;rw[Array.toList_eraseIdx];simp only[List.eraseIdx_eq_take_drop_succ,List.map_append,List.map_take,List.map_drop,hs]
end
theorem aS {P:Program} {T K E:TypeId} (hT:P.underlying T=some (.map K E)) {w:ϖ} {M:Nat} {L:List (Int × ϗ)} (h:aA w M L)(ty:TypeId):(Builtin.len_ #[T] ty #[.map (some M)]).run P w=.ok (ι ε L.length) w:=by
 obtain⟨es,IU,hb,hs,_⟩:=h;have:es.size=L.length:=by have:=ZG List.length hs;simpa using this
 simp[Builtin.len_,run_underlying hT,MapKept.run_getObj_map hb,Result.andThen,go_sem,this]
theorem kg {P:Program} {T K E:TypeId} (hT:P.underlying T=some (.map K E))(w:ϖ)(ty:TypeId):(Builtin.len_ #[T] ty #[.map none]).run P w=.ok (ι ε 0) w:=by simp[Builtin.len_,run_underlying hT,Result.andThen,go_sem]
theorem aB {w:ϖ} {B M:Nat} {cs:Array ϗ} {t:TypeId} {L:List (Int × ϗ)} (h:ah w B cs t)(k:aA w M L):B≠M:=by rintro rfl;obtain⟨es,c,hb,_⟩:=k;unfold ah at h;rw[h] at hb;cases hb
theorem dV {w:ϖ} {B M:Nat} {cs cs':Array ϗ} {t t':TypeId} (h:ah w B cs t)(k:ah w M cs' t')(e:t≠t'):B≠M:=by rintro rfl;unfold ah at h k;rw[h] at k;cases k;exact e rfl
theorem aA.made (w:ϖ):aA (w.alloc (.map #[] 0)) w []:=⟨#[],0,(MapKept.heap_alloc w _).1,rfl,MapKept.stamped_empty 0⟩
theorem aA.alloc {w:ϖ} {M:Nat} {L:List (Int × ϗ)} (h:aA w M L)(o:Obj):aA (w.alloc o) M L:=h.of_eq ((MapKept.heap_alloc w o).2 M h.size)
theorem aA.drew {w:ϖ} {M:Nat} {L:List (Int × ϗ)} (h:aA w M L):aA w.drew M L:=h
theorem aA.grow {w:ϖ} {M:Nat} {L:List (Int × ϗ)} (h:aA w M L)(d:Nat)(os:Array Obj):aA (grow (redrawn w d) os) M L:=h.below (ZW _ _ _)
def gZ (w:ϖ)(r M:Nat)(R:List (Int × ϗ)):Prop:=∃(es:Array MapEntry)(IU JH c0:Nat)(seen:Array Nat),w.heap[r]?=some (.mapIter (some M) JH seen c0)/\w.heap[M]?=some (.map es IU)/\JH<=c0/\JH<=IU/\(∀e ∈ es.toList,e.born<JH)/\(es.toList.map (·.born)).Nodup/\gJ (leftOf es seen).toList R
theorem gZ.below {w v:ϖ} {r M:Nat} {R:List (Int × ϗ)} (h:gZ w r M R)(hb:Below w w v):gZ v r M R:=by obtain⟨es,cl,si,c0,se,h1,h2,h3⟩:=h;exact⟨es,cl,si,c0,se,(hb.block r (Array.getElem?_eq_some_iff.1 h1).1).trans h1,(hb.block M (Array.getElem?_eq_some_iff.1 h2).1).trans h2,h3⟩
instance {w r M R}:Mv (gZ w r M R) w (λv'=>gZ v' r M R):=⟨λk h=>gZ.below h k⟩
theorem gZ.ko {w v:ϖ} {F:Nat->Prop} {r M:Nat} {R:List (Int × ϗ)} (h:gZ w r M R)(k:KO F w v)(hr:¬F r)(hM:¬F M):gZ v r M R:=by obtain⟨es,cl,si,c0,se,h1,h2,h3⟩:=h;exact⟨es,cl,si,c0,se,(k.block r (Array.getElem?_eq_some_iff.1 h1).1 hr).trans h1,(k.block M (Array.getElem?_eq_some_iff.1 h2).1 hM).trans h2,h3⟩
theorem sw (es:Array MapEntry):leftOf es #[]=es:=by unfold leftOf;apply Array.toList_inj.1;simp
theorem Cz {P:Program} {T K E:TypeId} (hT:P.underlying T=some (.map K E)) {w:ϖ} {M:Nat} {L:List (Int × ϗ)} (h:aA w M L):∃IU,(Instr.range T (.map (some M))).run P w=.ok (ψ w) (w.alloc (.mapIter (some M) IU #[] IU))/\gZ (w.alloc (.mapIter (some M) IU #[] IU)) w M L:=by have IJ:=h.size;obtain⟨es,IU,hb,hs,JY⟩:=h;obtain⟨hbo,Lx,_⟩:=(MapKept.stamped_iff _ _).1 JY;refine⟨IU,run_range_map w _ _ _ M es IU hT hb,es,IU,IU,IU,#[],heap_alloc_new _ _,(heap_alloc_old w _ IJ).trans hb,ZR _,ZR _,hbo,Lx,?_⟩;rw[sw];exact hs
theorem sR {R:List (Int × ϗ)}:∀{es:List MapEntry} {l1 l2:List MapEntry} {e:MapEntry},gJ (l1++e::l2) R->∃R1 f R2,R=R1++f::R2/\e.key=ik f.1/\e.val=f.2/\gJ (l1++l2) (R1++R2):=by
 intro es l1 l2 e h;unfold gJ at h;rw[List.map_append,gY] at h;have hl:l1.length<=R.length:=by have:=ZG List.length h;simp at this;omega
 refine⟨R.take l1.length,?_⟩;cases hd:R.drop l1.length with
 | nil=>have:=ZG List.length hd;have h2:=ZG List.length h;simp at this h2;omega
 | cons f R2=>
  have hR:R=R.take l1.length++f::R2:=by rw[<- hd,List.take_append_drop]
  rw[hR,List.map_append,gY] at h;have IS:(l1.map λe=>(e.key,e.val)).length=((R.take l1.length).map λp=>(ik p.1,p.2)).length:=ρJ;obtain⟨h1,h2⟩:=List.append_inj h IS;simp only[List.cons.injEq,Prod.mk.injEq] at h2;refine⟨f,R2,hR,h2.1.1,h2.1.2,?_⟩;unfold gJ;rw[List.map_append,List.map_append,h1,h2.2]
theorem rZ {l1 l2:List MapEntry} {e:MapEntry} (hn:((l1++e::l2).map (·.born)).Nodup):(l1++e::l2).filter (λx=>!(x.born==e.born))=l1++l2:=by
 rw[List.map_append,gY] at hn;obtain⟨n1,n2,n3⟩:=List.nodup_append.1 hn;have n4:=ZD.1 n2;rw[List.filter_append,List.filter_cons];rw[ZI ρp]
 congr 1
 ·refine List.filter_eq_self.2 λx hx=>?_;have:x.born≠e.born:=n3 _ (List.mem_map.2 ⟨x,hx,rfl⟩) _ (List.mem_cons_self ..);simpa using this
 ·refine List.filter_eq_self.2 λx hx=>?_;have:x.born≠e.born:=λq=>n4.1 (by rw[<- q];exact List.mem_map.2 ⟨x,hx,rfl⟩);simpa using this
theorem uU (es:Array MapEntry)(seen:Array Nat)(b:Nat):(leftOf es (seen.push b)).toList=(leftOf es seen).toList.filter (λx=>!(x.born==b)):=by unfold leftOf;rw[Array.toList_filter,Array.toList_filter,List.filter_filter];refine List.filter_congr λx _=>?_;rw[contains_push,Bool.not_or,Bool.and_comm]
theorem sA {es:Array MapEntry} {seen:Array Nat} (hn:(es.toList.map (·.born)).Nodup):((leftOf es seen).toList.map (·.born)).Nodup:=by unfold leftOf;rw[Array.toList_filter];exact List.Nodup.sublist (List.Sublist.map _ List.filter_sublist) hn
theorem Ac {P:Program} {w:ϖ} {r M:Nat} {R:List (Int × ϗ)} (h:gZ w r M R)(ty:TypeId):
  (R=[]/\(Instr.next r false ty).run P w=.ok (χ #[dI]) w)\/
  ∃R1 f R2 w',R=R1++f::R2/\(Instr.next r false ty).run P w=.ok (χ #[fJ,ik f.1,f.2]) w'/\gZ w' r M (R1++R2)/\Below r w w'/\w'.heap.size=w/\(∀b,b≠r->w'.heap[b]?=w.heap[b]?)/\(Instr.entry r).run P w'=.ok (χ #[ik f.1,f.2]) w':=by
 obtain⟨es,IU,JH,c0,seen,hr,hb,Oa,hsk,hold,Lx,hs⟩:=h;have hrlt:r<w:=(Array.getElem?_eq_some_iff.1 hr).1;have IX:r≠M:=λe=>by rw[e,hb] at hr;cases hr
 have Nc:∀x ∈ (leftOf es seen).toList,x.born<JH:=λx hx=>hold x (mem_left hx).1;have Lw:=sA (seen:=seen) Lx;have KE:=λe=>uU es seen e;have Jg:∀e ∈ (leftOf es seen).toList,e ∈ es.toList:=λe he=>(mem_left he).1;have Sx:∀(K:Result ϗ->Prop),(∀x,(Instr.next r false ty).run P w=x->K x)->K ((Instr.next r false ty).run P w):=λK h=>h _ rfl;simp only[Instr.next,getObj,Sem.run_bind,Sem.run,hr,hb,Result.andThen,next_test_false seen es JH c0 hold Oa,Bool.false_eq_true,if_false];show (R=[]/\_)\/_;have hleft:(Array.filter (λe=>!seen.contains e.born) es)=leftOf es seen:=rfl;rw[hleft];generalize leftOf es seen=L at Nc hs Lw KE Jg ⊢;have e1:L.filter (λx=>decide (x.born<JH))=L:=Array.filter_eq_self.2 (λx hx=>by simpa using Nc x (by simpa using hx));have e2:L.filter (λx=>decide (x.born≥JH))=#[]:=by rw[Array.filter_eq_empty_iff];intro x hx;have:=Nc x (by simpa using hx);simp;omega
 simp only[e1,e2,Array.append_empty];by_cases h0:L.size=0
 ·left;have:L=#[]:=Array.eq_empty_of_size_eq_zero h0;subst this;refine⟨?_,by simp[choose,Sem.run,Question.forced]⟩;unfold gJ at hs;simpa using hs
 ·right;have hne':L.isEmpty=false:=by simp[Array.isEmpty,h0]
  simp only[hne',Bool.false_eq_true,if_false,Array.empty_append,Array.size_map];have Jq:∃(j:Nat) (w1:ϖ),j<L.size/\w1.heap=w.heap/\w1.os=w.os/\Below w w w1/\(choose (Question.mapNext L.size)).run P w=.ok j w1:=by
   by_cases hf:L.size<=1
   ·exact⟨0,w,by omega,rfl,rfl,Below.refl _ _,by simp[choose,Sem.run,Question.forced,hf]⟩
   ·exact⟨_,w.drew,Nat.mod_lt _ ρa,rfl,rfl,Below.drew (Below.refl _ _),by
     simp only[choose,Sem.run,Question.forced,decide_eq_true_eq,hf,if_false,Question.cut];rfl⟩
  obtain⟨j,w1,hj,hhe,hos,ZX,hcr⟩:=Jq;obtain⟨l1,l2,hl⟩:∃l1 l2,L.toList=l1++L[j]::l2:=⟨L.toList.take j,L.toList.drop (j+1),by
   have:L.toList.drop j=L[j]::L.toList.drop (j+1):=by rw[List.drop_eq_getElem_cons κb];simp
   rw[<- this,List.take_append_drop]⟩
  rw[hl] at hs Lw;obtain⟨R1,f,R2,hR,hk,hv,Ja⟩:=sR (es:=[]) hs;have Uu:w1.heap[r]?=some (.mapIter (some M) JH seen c0):=by rw[hhe];exact hr
  have MA:(setObj r (.mapIter (some M) JH (seen.push L[j].born) IU)).run P w1=.ok () {w1 with heap:=w1.heap.setIfInBounds r (.mapIter (some M) JH (seen.push L[j].born) IU)}:=by simp only[setObj,Sem.run,Uu]
  have ho:∀b,b≠r->(w1.heap.setIfInBounds r (.mapIter (some M) JH (seen.push L[j].born) IU))[b]?=w.heap[b]?:=λb hbr=>by rw[Array.getElem?_setIfInBounds,ZI (λe=>hbr e.symm),hhe]
  have hn:(w1.heap.setIfInBounds r (.mapIter (some M) JH (seen.push L[j].born) IU))[r]?=some (.mapIter (some M) JH (seen.push L[j].born) IU):=by rw[Array.getElem?_setIfInBounds,ZP rfl,ZP (by rw[hhe];exact hrlt)]
  have hbM:(w1.heap.setIfInBounds r (.mapIter (some M) JH (seen.push L[j].born) IU))[M]?=some (.map es IU):=(ho M (λe=>IX e.symm)).trans hb;refine⟨R1,f,R2,{w1 with heap:=w1.heap.setIfInBounds r (.mapIter (some M) JH (seen.push L[j].born) IU)},hR,?_,?_,?_,?_,ho,?_⟩
  ·simp only[hcr,Array.getElem?_map,Array.getElem?_eq_getElem hj,Option.map_some,Sem.run_bind,MA,Result.andThen];rw[hk,hv];rfl
  ·refine⟨es,IU,JH,IU,seen.push L[j].born,hn,hbM,hsk,hsk,hold,Lx,?_⟩;rw[KE,hl,rZ Lw];exact Ja
  ·refine(ZX.mono (Nat.le_of_lt hrlt)).trans ⟨rfl,rfl,rfl,by simp,λb hbr=>?_⟩;show (w1.heap.setIfInBounds r _)[b]?=w1.heap[b]?;rw[Array.getElem?_setIfInBounds,ZI ρa]
  ·simp[hhe]
  ·have hmj:L[j] ∈ es.toList:=Jg _ ρp;have hf:es.find? (·.born==L[j].born)=some L[j]:=by rw[<- Array.find?_toList];exact find_born L[j] es.toList Lx hmj
   simp only[Instr.entry,getObj,Sem.run_bind,Sem.run,hn,hbM,Result.andThen,Array.back?_push,bne_self_eq_false,Bool.false_eq_true,if_false,hf];rw[hk,hv];rfl
section
variable {P:Program} {T K E:TypeId} {IA:Array Oper} {rest:List Oper} {o:Oper} {a:Act} {Q:Exit->Act->ϖ->Prop}
theorem mq (hT:P.underlying T=some (.map K E)) {w:ϖ} (hg:o.guard=none)(m:Operand)(Po:o.op=Op.range T m)(M:Nat)(L:List (Int × ϗ))(hm:a.eval m=.map (some M))(h:aA w M L)
  (hK:∀w',gZ w' w M L->Below w w w'->w'.heap.size=w+1->wpList P IA Q rest (a.put o.dst w) w'):wpList P IA Q (o::rest) a w:=by
 refine wpList_plain hg λK' hK'=>?_;obtain⟨c,Sx,hi⟩:=Cz hT h;unfold Oper.wp;simp[execOp,Po,hm,Sx,Result.andThen];exact hK' _ _ (hK _ hi (Below.alloc (Below.refl _ _) (ZR _) _) ρp)
theorem mH {w:ϖ} (hg:o.guard=none)(it:Operand)(Po:o.op=Op.next it false)(r M:Nat)(R:List (Int × ϗ))(Cy:a.eval it=r)(h:gZ w r M R)
  (hDone:R=[]->wpList P IA Q rest (a.put o.dst (χ #[dI])) w)
  (hMore:∀R1 f R2 w',R=R1++f::R2->gZ w' r M (R1++R2)->Below r w w'->w'.heap.size=w->(∀b,b≠r->w'.heap[b]?=w.heap[b]?)->(Instr.entry r).run P w'=.ok (χ #[ik f.1,f.2]) w'->wpList P IA Q rest (a.put o.dst (χ #[fJ,ik f.1,f.2])) w'):wpList P IA Q (o::rest) a w:=by
 refine wpList_plain hg λK' hK'=>?_;unfold Oper.wp;rcases Ac (P:=P) h o.type with ⟨h0,Sx⟩|⟨R1,f,R2,w',e1,Sx,h2,h3,h4,h5,h6⟩
 ·simp[execOp,Po,Cy,Sx,Result.andThen];exact hK' _ _ (hDone h0)
 ·simp[execOp,Po,Cy,Sx,Result.andThen];exact hK' _ _ (hMore R1 f R2 w' e1 h2 h3 h4 h5 h6)
end
theorem gK {P:Program} {IA:Array Oper} {rest:List Oper} {op:Oper} {a:Act} {w:ϖ} {Q:Exit->Act->ϖ->Prop} (ty:TypeId)(x y:Operand)(B o:Nat)(cs cs' Pz:Array ϗ)(t:TypeId)
  (Ld:op.guard=none) (ho:op.op=.store ty x y) (hx:a.eval x=ψ (some ⟨B,o,none⟩)) (hy:a.eval y=φ cs') (hB:ah w B cs t) (Kw:o+cs'.size<=cs.size) (MA:cJ cs o cs'.toList=Pz) (hi:(P.info? ty).map (·.size)=some cs'.size) (h1:cs'.all (·.oneCell')=true)
  (h:∀w',ah w' B Pz t->(∀(K:Nat) (u:ϖ),K<=B->Below K u w->Below K u w')->(∀(b:Nat) (c:Array ϗ) (s:TypeId),b≠B->ah w b c s->ah w' b c s)->w'.heap.size=w->wpList P IA Q rest (a.put op.dst undef) w'):wpList P IA Q (op::rest) a w:=by
 refine wpList_store_mid Ld ty x y ho B o cs' hx hy (λj hj=>?_) hi h1 ?_
 ·exact ηw
 ·have hb:=ah.setCells cs'.toList o w cs hB;rw[MA] at hb;exact ηz
theorem uV {P:Program} {IA:Array Oper} {rest:List Oper} {op:Oper} {a:Act} {w:ϖ} {Q:Exit->Act->ϖ->Prop} (ty:TypeId)(x:Operand)(B o:Nat)(cs cs':Array ϗ)(t:TypeId)(d:TypeDesc)
  (Ld:op.guard=none) (ho:op.op=.load ty x) (hx:a.eval x=ψ (some ⟨B,o,none⟩)) (hB:ah w B cs t) (hc:∀j v,cs'.toList[j]?=some v->cs[o+j]?=some v) (hu:P.underlying ty=some d) (hd:d.isRow=true) (hi:(P.info? ty).map (·.size)=some cs'.size)
  (h:wpList P IA Q rest (a.put op.dst (φ cs')) w):wpList P IA Q (op::rest) a w:=by
 refine wpList_load_mid Ld ty x ho B o hx cs'.toList d (λj v hj=>?_) hu hd τk σL;rw[hB.cell];exact hc j v hj
section
variable {P:Program} {IA:Array Oper}
def tp (L:Array Bool):Nat->Nat
 | 0=>0
 | k+1=>tp L k+(if L.getD k false then 0 else 1)
theorem mf {L:Array Bool} {i:Nat}:∀k,k<=i->tp (L.setIfInBounds i true) k=tp L k
 | 0,_=>rfl
 | k+1,h=>by unfold tp;rw[mf k ρa,getD_set_ne false ρa]
theorem iQ {L:Array Bool} {i:Nat} (h:i<L.size):(L.setIfInBounds i true).getD i false=true:=by simp[Array.getD_eq_getD_getElem?,h]
theorem uq {L:Array Bool} {i:Nat} (hs:i<L.size)(h:L.getD i false=false):∀k,i<k->tp (L.setIfInBounds i true) k+1=tp L k
 | 0,hk=>by omega
 | k+1,hk=>by
  unfold tp;by_cases e:i=k
  ·subst e;rw[mf i (ZR _),iQ hs,h];simp
  ·have:=uq hs h k ρa;rw[getD_set_ne false e];omega
theorem qW {L:Array Bool}:∀k,tp L k=0->∀i,i<k->L.getD i false=true
 | 0,_,i,hi=>by omega
 | k+1,h,i,hi=>by
  unfold tp at h;by_cases e:i=k
  ·subst e;by_cases hb:L.getD i false=true
   ·exact hb
   ·rw[ZI hb] at h;omega
  ·exact qW k ρa i ρa
theorem uo (m:Nat):∀k,tp (Array.replicate m false) k=k
 | 0=>rfl
 | k+1=>by unfold tp;rw[uo m k,lx];simp
theorem jk (a:Act)(t:Tmp):a.eval (.tmp t)=a.tmps.getD t undef:=rfl
theorem de (a:Act)(t:Tmp):a.tmps[t]?.getD undef=a.eval (.tmp t):=by rw[jk,Array.getD_eq_getD_getElem?]
theorem uM (a:Act)(n:Nat)(h:a.tmps.size=n):a=⟨((List.range n).map λt=>a.eval (.tmp t)).toArray,a.defers⟩:=by
 obtain⟨tmps,defers⟩:=a;simp only at h
 congr 1
 apply Array.ext
 ·simp[h]
 ·intro i h1 h2;simp[jk,Array.getD_eq_getD_getElem?,h1]
end
section
variable {P:Program} {IA:Array Oper}
end
section
variable {P:Program} {IA:Array Oper}
end
abbrev TM:=Int->Option (Int × Int)
def aJ (m:TM)(k:Int)(v:Option (Int × Int)):TM:=λj=>if j=k then v else m j
def TM.ok (m:TM):Prop:=∀j p,m j=some p->(0<=p.1/\p.1<=Ma)/\(0<=p.2/\p.2<=Ma)
def gF (j:Int)(p:Int × Int):ay:=⟨⟨p.1,j⟩,⟨p.2,j⟩⟩
def dk (m:TM)(t:AT):Prop:=∀y,y ∈ t.items↔∃j p,m j=some p/\y=gF j p
theorem dk.ins {m:TM} {t:AT} (h:dk m t) {k:Int} {p:Int × Int} (hk:m k=none):(∀y ∈ t.items,y.key≠(gF k p).key)/\dk (aJ m k (some p)) (t.ins (gF k p)):=by
 have IX:∀y ∈ t.items,y.key≠(gF k p).key:=λy hy e=>by obtain⟨j,q,hq,rfl⟩:=(h y).1 hy;simp only[gF,aG.mk.injEq] at e;rw[e.2,hk] at hq;cases hq
 refine⟨IX,λy=>?_⟩;rw[AT.mem_ins t _ IX];constructor
 ·rintro(rfl|hy)
  ·exact⟨k,p,by simp[aJ],rfl⟩
  ·obtain⟨j,q,hq,rfl⟩:=(h y).1 hy;exact⟨j,q,by unfold aJ;rw[ZI (λe=>by rw[e,hk] at hq;cases hq)];exact hq,rfl⟩
 ·rintro⟨j,q,hq,rfl⟩;unfold aJ at hq;by_cases e:j=k
  ·rw[ZP e] at hq;cases hq;subst e;exact .inl rfl
  ·rw[ZI e] at hq;exact .inr ((h _).2 ⟨j,q,hq,rfl⟩)
theorem dk.del {m:TM} {t:AT} (h:dk m t)(o:AT.Ord t) {k:Int} {p:Int × Int} (hk:m k=some p):(∃y ∈ t.items,y.key=(gF k p).key)/\dk (aJ m k none) (t.del (gF k p).key):=by
 have he:∃y ∈ t.items,y.key=(gF k p).key:=⟨gF k p,(h _).2 ⟨k,p,hk,rfl⟩,rfl⟩;refine⟨he,λy=>?_⟩;rw[AT.del_items t _ o he,List.mem_filter];constructor
 ·rintro⟨hy,hn⟩;obtain⟨j,q,hq,rfl⟩:=(h y).1 hy;have Wn:(gF j q).key≠(gF k p).key:=by simpa using hn
  refine⟨j,q,?_,rfl⟩;unfold aJ;rw[ZI (λe=>Wn (by subst e;rw[hk] at hq;cases hq;rfl))];exact hq
 ·rintro⟨j,q,hq,rfl⟩;unfold aJ at hq;by_cases e:j=k
  ·rw[ZP e] at hq;cases hq
  ·rw[ZI e] at hq;refine⟨(h _).2 ⟨j,q,hq,rfl⟩,?_⟩;simp only[gF,ne_eq,aG.mk.injEq,decide_eq_true_eq];exact λq=>e q.2
theorem dk.ext {m m':TM} {t:AT} (h:dk m t)(e:∀j,m j=m' j):dk m' t:=by have:m=m':=funext e;rw[<- this];exact h
theorem dk.count {m:TM} {t:AT} (h:dk m t)(o:AT.Ord t) {ids:List Int} (hi:∀j,m j≠none->j ∈ ids):t.many<=ids.length:=by
 rw[AT.many_items];have Lx:(t.items.map (λy=>y.key.id)).Nodup:=by unfold List.Nodup;rw[List.pairwise_map];have o':t.items.Pairwise (λa b=>a.key.lt b.key):=o;refine List.Pairwise.imp_of_mem (fun {a b} ha hb IK=>?_) o';obtain⟨j,p,hp,rfl⟩:=(h a).1 ha;obtain⟨k,q,hq,rfl⟩:=(h b).1 hb;intro e;have e':j=k:=e;subst e';rw[hp] at hq;cases hq;exact aG.lt_irrefl _ IK
 have ME:∀x ∈ t.items.map (λy=>y.key.id),x ∈ ids:=λx hx=>by obtain⟨y,hy,rfl⟩:=List.mem_map.1 hx;obtain⟨j,p,hp,rfl⟩:=(h y).1 hy;exact hi j (by rw[hp];simp)
 have:=List.Nodup.length_le_of_subset Lx ME;simp only[pf] at this;omega
theorem dk.nil {t:AT} {m:TM} (h:dk m t):t=.nil↔∀j,m j=none:=by
 constructor
 ·rintro rfl j;cases e:m j with
  | none=>rfl
  | some p=>exact ax ((h _).2 ⟨j,p,e,rfl⟩) (by simp[AT.items])
 ·intro hm;cases t with
  | nil=>rfl
  | node l i r=>obtain⟨j,p,hp,_⟩:=(h i).1 (by simp[AT.items]);rw[hm] at hp;cases hp
def tG (m:TM)(p:Int)(id:Int)(ok:Bool):Prop:=match ok with
 | false=>id=0/\∀j q,m j=some q->p<q.1
 | true=>∃x,m id=some x/\x.1<=p/\∀j q,m j=some q->q.1<=p->x.2<q.2\/x.2=q.2/\id<=j
def jW (m:TM)(p:Int)(id:Int)(ok:Bool):Prop:=match ok with
 | false=>id=0/\∀j q,m j=some q->p<q.2
 | true=>∃x,m id=some x/\x.2<=p/\∀j q,m j=some q->q.2<=p->x.1<q.1\/x.1=q.1/\id<=j
def iT (m:TM)(v:Int)(ok:Bool):Prop:=match ok with
 | false=>v=0/\∀j,m j=none
 | true=>(∃j q,m j=some q/\v=q.1)/\∀j q,m j=some q->v<=q.1
def ic (m:TM)(d v:Int):Prop:=(v=d\/∃j q,m j=some q/\v=q.2)/\v<=d/\∀j q,m j=some q->v<=q.2
def ib (m:TM)(d v:Int):Prop:=(v=d\/∃j q,m j=some q/\v=q.1)/\v<=d/\∀j q,m j=some q->v<=q.1
theorem xb {m:TM} {t:AT} (h:dk m t)(o:AT.Ord t)(p:Int):tG m p ((t.bestTo p).getD ⟨⟨0,0⟩,⟨0,0⟩⟩).key.id (t.bestTo p).isSome:=by
 have hb:=AT.best_bestTo t p o;cases e:t.bestTo p with
 | none=>rw[e] at hb;refine⟨rfl,λj q hq=>?_⟩;have h1:¬(gF j q).key.pos<=p:=λNE=>hb (gF j q) ⟨(h _).2 ⟨j,q,hq,rfl⟩,NE⟩;have h2:¬q.1<=p:=h1;omega
 | some x=>rw[e] at hb;obtain⟨⟨hx,hp⟩,Jg⟩:=hb;obtain⟨k,a,ha,rfl⟩:=(h x).1 hx;refine⟨a,ha,hp,λj q hq NE=>?_⟩;have:=Jg (gF j q) ⟨(h _).2 ⟨j,q,hq,rfl⟩,NE⟩;simp only[AT.NoB,aG.lt,gF,aG.mk.injEq] at this;show a.2<q.2\/a.2=q.2/\k<=j;omega
theorem xc {m:TM} {t:AT} (h:dk m t)(o:AT.Ord t)(p:Int):match t.firstAt p with|none=>jW m p 0 false|some x=>jW m p x.key.id true:=by
 have hb:=AT.firstAt_spec t p o;cases e:t.firstAt p with
 | none=>rw[e] at hb;exact⟨rfl,λj q hq=>hb (gF j q) ((h _).2 ⟨j,q,hq,rfl⟩)⟩
 | some x=>rw[e] at hb;obtain⟨hx,hp,Jg⟩:=hb;obtain⟨k,a,ha,rfl⟩:=(h x).1 hx;refine⟨a,ha,hp,λj q hq NE=>?_⟩;have:=Jg (gF j q) ((h _).2 ⟨j,q,hq,rfl⟩) NE;simp only[aG.lt,gF] at this;show a.1<q.1\/a.1=q.1/\k<=j;omega
theorem mW {m:TM} {l r:AT} {i:ay} (h:dk m (.node l i r))(o:AT.Ord (.node l i r)):iT m (l.first i).key.pos true:=by
 obtain⟨z,hz⟩:=AT.first_node l i r;have ho:((l.first i)::z).Pairwise (λa b=>a.key.lt b.key):=by have:=o;unfold AT.Ord at this;rw[hz] at this;exact this
 refine⟨?_,λj q hq=>?_⟩
 ·obtain⟨j,q,hq,e⟩:=(h (l.first i)).1 (by rw[hz];simp);exact⟨j,q,hq,by rw[e];rfl⟩
 ·have hm:=(h _).2 ⟨j,q,hq,rfl⟩;rw[hz] at hm;rcases ZC.1 hm with e|hm
  ·rw[<- e];exact ZJ _
  ·have:=(List.pairwise_cons.1 ho).1 _ hm;simp only[aG.lt,gF] at this;omega
theorem uT {m:TM} {t:AT} (h:dk m t)(o:AT.Ord t)(Jo:m.ok)(d:Int)(f:ay)(hf:t.bestTo Ma=some f):ic m d (min f.val.pos d):=by
 have hb:=AT.best_bestTo t Ma o;rw[hf] at hb;obtain⟨⟨hx,hp⟩,Jg⟩:=hb;obtain⟨k,a,ha,rfl⟩:=(h f).1 hx;refine⟨?_,Int.min_le_right _ _,λj q hq=>?_⟩
 ·show min a.2 d=d\/_;rcases Int.le_total a.2 d with g|g
  ·exact .inr ⟨k,a,ha,by show min a.2 d=a.2;omega⟩
  ·exact .inl ρa
 ·have:=Jg (gF j q) ⟨(h _).2 ⟨j,q,hq,rfl⟩,((Jo j q hq).1.2)⟩;simp only[AT.NoB,aG.lt,gF,aG.mk.injEq] at this;show min a.2 d<=q.2;omega
theorem uD {m:TM} {t:AT} (h:dk m t)(o:AT.Ord t)(Jo:m.ok)(IX:∃j,m j≠none):∃f,t.bestTo Ma=some f:=by
 have hb:=AT.best_bestTo t Ma o;cases e:t.bestTo Ma with
 | none=>
  rw[e] at hb;obtain⟨j,hj⟩:=IX;cases ej:m j with
  | none=>exact ax ej hj
  | some q=>exact ax ⟨(h _).2 ⟨j,q,ej,rfl⟩,(Jo j q ej).1.2⟩ (hb (gF j q))
 | some f=>exact⟨f,rfl⟩
theorem uS {m:TM} {l r:AT} {i:ay} (h:dk m (.node l i r))(o:AT.Ord (.node l i r))(d:Int):ib m d (min (l.first i).key.pos d):=by
 obtain⟨⟨j,q,hq,e⟩,Jg⟩:=mW h o;refine⟨?_,Int.min_le_right _ _,λk x hx=>by have:=Jg k x hx;omega⟩;rcases Int.le_total (l.first i).key.pos d with g|g
 ·exact .inr ⟨j,q,hq,by omega⟩
 ·exact .inl ρa
theorem oZ {m:TM} (h:m.ok) {k:Int} {p:Int × Int} (hp:(0<=p.1/\p.1<=Ma)/\(0<=p.2/\p.2<=Ma)):(aJ m k (some p)).ok:=by
 intro j q hq;unfold aJ at hq;split at hq
 ·cases hq;exact hp
 ·exact h j q hq
theorem jw {m:TM} (h:m.ok) {k:Int}:(aJ m k none).ok:=by
 intro j q hq;unfold aJ at hq;split at hq
 ·cases hq
 ·exact h j q hq
def yJ (zs:List Int):Int:=zs.foldl min Mc
theorem wS (zs:List Int)(z:Int):yJ (zs++[z])=min (yJ zs) z:=by unfold yJ;simp
def pu (w:ϖ)(a:Option Addr)(len:Nat)(zs:List Int):Prop:=
 zs.length=len/\(len=0\/∃b II,a=some ⟨b,II,none⟩/\∀i,i<len->w.cell? ⟨b,II+i,none⟩=some (ι υ (zs.getD i 0)))
theorem lT (zs:List Int)(k:Nat)(h:k<zs.length):zs.take (k+1)=zs.take k++[zs.getD k 0]:=by rw[List.take_succ_eq_append_getElem h];simp[h]
theorem Cl (a:Option Addr)(len IM:Nat)(zs:List Int)(w:ϖ)(hr:pu w a len zs)(hm:len<=Mb)(hz:∀z ∈ zs,0<=z/\z<=Ma):Calls Ψ 169 #[ζ a len IM] w λe w'=>e=ϰ (yJ zs)/\w=w':=by
 obtain⟨IS,hr⟩:=hr;have Lv:yJ (zs.take 0)=Mc:=rfl;have Lt:=ag (show zs.take len=zs from List.take_of_length_le ρa);have hz':=ag hz;clear hz;have RM:=ag IS;clear IS;have hr':=ag hr;clear hr;go_in;go_wp2;go_loop [3,8] (λt i=>∃k:Nat,k<=len/\i=ι ε k/\t=(yJ (zs.take k))) (λ_ i=>len - (intOf i).toNat);case atStart=>exact⟨0,Nat.zero_le _,rfl,rfl⟩
 case round=>
  obtain⟨k,hk,rfl,rfl⟩:=hrel;by_cases IJ:k<len
  ·have hs:=lT zs k (by rw[RM.out];exact IJ);have hg:0<=zs.getD k 0/\zs.getD k 0<=Ma:=hz'.out _ (by have hq:k<zs.length:=(by rw[RM.out];exact IJ);simp[hq]);have Mz:=ag (show yJ (zs.take (k+1))=min (yJ (zs.take k)) (zs.getD k 0) by rw[hs,wS]);clear hs;obtain⟨b,II,rfl,hc⟩:∃b II,a=some ⟨b,II,none⟩/\∀i,i<len->w.cell? ⟨b,II+i,none⟩=some (ι υ (zs.getD i 0)):=by
    rcases hr'.out with h|h
    ·omega
    ·exact h
   have ML:=hc k IJ;clear hc;go_wp2;go_round;case rel=>exact⟨k+1,by omega,by go_num,by rw[Mz.out];refine ZG _ ?_;(first|(show (if zs.getD k 0<_ then zs.getD k 0 else _)=_;split<;>omega)|simp)⟩
   case measure=>simp[intOf];omega
  ·obtain rfl:k=len:=by omega
   go_wp2;go_ret;exact⟨dP (by rw[Lt.out]),rfl⟩
theorem fa (n m:Int)(w:ϖ)(b:Bool)(hb:decide (1<=n/\n<=m)=b):Calls Ψ 225 #[ι ε n,ι ε m] w λe w'=>e=ϰ (β b)/\w=w':=by
 subst hb;by_cases h1:1<=n
 ·by_cases h2:n<=m
  ·rw[ZT (show 1<=n/\n<=m from⟨h1,h2⟩)];have d1:=ZT h1;exact ξx
  ·rw[ZF (show ¬(1<=n/\n<=m) from λh=>h2 h.2)];have d1:=ZT h1;have d2:=ZF h2;exact ξx
 ·rw[ZF (show ¬(1<=n/\n<=m) from λh=>h1 h.1)];have d1:=ZF h1;exact ξx
def bt (v:Int)(k:Nat):Int:=v / 2 ^ (8*k) % 256
def Gh (l:List UInt8):Int:=l.foldl (λv c=>v*256+(c.toNat:Int)) 0
abbrev FR (id len h0 h1 h2 h3:Int):ϗ:=φ #[ι υ id,ι ε len,ι ω h0,ι ω h1,ι ω h2,ι ω h3]
def l0 (id len h0 h1 h2 h3:Int):List Int:=[0,0,0,0,0,0,0,0,0,0,0,0,0,0,0,0,0,0]
def l8 (id len h0 h1 h2 h3:Int):List Int:=[bt id 7,bt id 6,bt id 5,bt id 4,bt id 3,bt id 2,bt id 1,bt id 0,0,0,0,0,0,0,0,0,0,0]
def Gd (id len h0 h1 h2 h3:Int):List Int:=[bt id 7,bt id 6,bt id 5,bt id 4,bt id 3,bt id 2,bt id 1,bt id 0,bt len 1,bt len 0,0,0,0,0,0,0,0,0]
def nB (s:ByteArray)(a b:Nat):Int:=Gh (s.extract a b).data.toList
theorem ye (id len h0 h1 h2 h3 t:Int)(w:ϖ)(ht:1<=t/\t<=65536)(IS:1<=len/\len<=16384):
  CB 167 #[FR id len h0 h1 h2 h3,ι ε t] w (χ #[ι υ (len*t),Kz]):=by
 have hp:0<=len*t/\len*t<=1073741824:=by refine⟨Int.mul_nonneg ρa ρa,?_⟩;have:=Int.mul_le_mul IS.2 ht.2 ρa (by omega:(0:Int)<=16384);omega
 unfold CB;go_in;go_wp2_with fail;refine(fa t 65536 _ true (ZT ht)).mono ?_;rintro e u1 ⟨rfl,rfl⟩;go_wp2_with fail;refine(fa len 16384 _ true (ZT IS)).mono ?_;rintro e u2 ⟨rfl,rfl⟩;go_wp2;go_returns;exact⟨rfl,ρE⟩
theorem Ai (id len h0 h1 h2 h3 m:Int)(w:ϖ)(c:Int)(h:(if 1<=m/\m<=16384 then (if 1<=len/\len<=m then 0 else 26) else 1)=c):
  CB 166 #[FR id len h0 h1 h2 h3,ι ε m] w (ι ε c):=by
 by_cases hm:1<=m/\m<=16384
 ·rw[ZP hm] at h;by_cases hl:1<=len/\len<=m
  ·rw[ZP hl] at h;subst h;unfold CB;go_in;go_wp2_with fail;refine(fa m 16384 _ true (ZT hm)).mono ?_;rintro e u1 ⟨rfl,rfl⟩;go_wp2_with fail;refine(fa len m _ true (ZT hl)).mono ?_;rintro e u2 ⟨rfl,rfl⟩;go_wp2;go_ret;exact⟨rfl,ρE⟩
  ·rw[ZI hl] at h;subst h;unfold CB;go_in;go_wp2_with fail;refine(fa m 16384 _ true (ZT hm)).mono ?_;rintro e u1 ⟨rfl,rfl⟩;go_wp2_with fail;refine(fa len m _ false (ZF hl)).mono ?_;rintro e u2 ⟨rfl,rfl⟩;go_wp2;go_ret;exact⟨rfl,ρE⟩
 ·rw[ZI hm] at h;subst h;unfold CB;go_in;go_wp2_with fail;refine(fa m 16384 _ false (ZF hm)).mono ?_;rintro e u1 ⟨rfl,rfl⟩;go_wp2;go_ret;exact⟨rfl,ρE⟩
section
variable {P:Program} {IA:Array Oper}
def wi (IA:Array Oper):Bool:=(List.range IA.size).all λi=>(eR .any IA i).all (λj=>decide (j<i))
theorem rD (h:wi IA=true):∀(i:Nat)(o:Oper),IA[i]?=some o->∀j ∈ eR .any IA i,j<i:=by intro i o ho j hj;have hi:=(Array.getElem?_eq_some_iff.1 ho).1;have:=List.all_eq_true.1 h i (List.mem_range.2 hi);simpa using List.all_eq_true.1 this j hj
theorem jU {J:Array Bool->Act->ϖ->Prop} {Q:Exit->Act->ϖ->Prop} (S:∀(i:Nat)(o:Oper),IA[i]?=some o->∀j ∈ eR .any IA i,j<i)
  (Mg:∀(i:Nat) (o:Oper),IA[i]?=some o->∀L a w,L.size=IA.size->J L a w->L.getD i false=false->(∀j ∈ eR .any IA i,L.getD j false=true)->
   (Region.wanted o (yielded IA a.tmps)=true->o.wp P a w (λa' w'=>J (L.setIfInBounds i true) a' w') Q)/\(Region.wanted o (yielded IA a.tmps)=false->J (L.setIfInBounds i true) (a.put o.dst undef) w))
  (QM:∀L a w,L.size=IA.size->J L a w->(∀i,i<IA.size->L.getD i false=true)->Q .normal a w):
  ∀(fuel:Nat) (L:Array Bool) (a:Act) (w:ϖ),L.size=IA.size->J L a w->tp L IA.size=fuel->wpAny P .any IA Q fuel L a w
 | 0,L,a,w,hz,I,hu=>by
  have Jg:=qW _ hu;refine⟨?_,QM L a w hz I Jg⟩;cases hr:Region.ready .any IA L with
  | nil=>rfl
  | cons i r=>
   exfalso;have hi:i ∈ Region.ready .any IA L:=by rw[hr];exact List.mem_cons_self ..
   have h1:=(mem_ready.1 hi).1;rw[n9 (Jg i (jr hi))] at h1;cases h1
 | fuel+1,L,a,w,hz,I,hu=>by
  constructor
  ·intro h0;exfalso;have:∀n i,i<n->i<IA.size->L.getD i false=true:=by
    intro n
    induction n with
    | zero=>intro i hi;omega
    | succ n ih=>
     intro i hi hs;by_cases hb:L.getD i false=true
     ·exact hb
     ·exfalso;have hf:L.getD i true=false:=by
       have IJ:i<L.size:=by rw[hz];exact hs
       simp only[Array.getD_eq_getD_getElem?] at*;simpa [IJ] using hb
      have hr:i ∈ Region.ready .any IA L:=by
       refine mem_ready.2 ⟨hf,IA[i],Array.getElem?_eq_getElem hs,λe he hbd=>?_⟩;have hw:e.on ∈ eR .any IA i:=by unfold eR;rw[Array.getElem?_eq_getElem hs];exact List.mem_map.2 ⟨e,List.mem_filter.2 ⟨by simpa using he,hbd⟩,rfl⟩
       have IJ:=S i _ (Array.getElem?_eq_getElem hs) _ hw;exact ih e.on ρa ρa
      rw[h0] at hr;cases hr
   have Ob:∀k,k<=IA.size->tp L k=0:=by
    intro k
    induction k with
    | zero=>intro _;rfl
    | succ k ih=>intro hk;unfold tp;rw[ih ρa,this (k+1) k ρa ρa];rfl
   rw[Ob _ (ZR _)] at hu;omega
  ·intro i hi;obtain⟨Yk,o,ho,Jg⟩:=mem_ready.1 hi;have his:=jr hi;have hL:i<L.size:=by rw[hz];exact his
   have hunf:L.getD i false=false:=by simp only[Array.getD_eq_getD_getElem?] at*;simpa [hL] using Yk
   have hd:∀j ∈ eR .any IA i,L.getD j false=true:=λj hj=>fH hi hj;obtain⟨s1,s2⟩:=Mg i o ho L a w hz I hunf hd;have XT:tp (L.setIfInBounds i true) IA.size=fuel:=κr;unfold wpOp;simp only[ho];by_cases hw:Region.wanted o (yielded IA a.tmps)=true
   ·rw[ZP hw];left;refine Oper.wp_mono ?_ (s1 hw);intro a' w' hJ;exact jU S Mg QM fuel _ _ _ (by simp[hz]) hJ XT
   ·rw[ZI hw];exact jU S Mg QM fuel _ _ _ (by simp[hz]) (s2 (by simpa using hw)) XT
theorem mI {id:Nat} {Q:Exit->Act->ϖ->Prop} {a0:Act} {w0:ϖ} {l:List Oper} (J:Array Bool->Act->ϖ->Prop)(hm:P.follows .mixedOrders=true)(hB:wi l.toArray=true)
  (h0:J (Array.replicate l.toArray.size false) a0 {w0 with drawn:=w0.drawn+1})
  (Mg:∀(i:Nat) (o:Oper),l[i]?=some o->∀L a w,L.size=l.toArray.size->J L a w->L.getD i false=false->(∀j ∈ eR .any l.toArray i,L.getD j false=true)->
   (Region.wanted o (yielded l.toArray a.tmps)=true->o.wp P a w (λa' w'=>J (L.setIfInBounds i true) a' w') Q)/\(Region.wanted o (yielded l.toArray a.tmps)=false->J (L.setIfInBounds i true) (a.put o.dst undef) w))
  (QM:∀L a w,L.size=l.toArray.size->J L a w->(∀i,i<l.toArray.size->L.getD i false=true)->Q .normal a w):(Code.region id l.toArray true).wp P Q a0 w0:=by
 refine wp_region_any hm ?_;exact jU (rD hB) (λi o ho=>Mg i o (by simpa using ho)) QM _ _ _ _ ρp h0 (uo _ _)
end
namespace wholeBehindDone
theorem dv {a b:Bool} (ha:a=true)(hb:b=true):(a && b)=true:=by rw[ha,hb];rfl
theorem j0:(Rows.wholeBehindRow.wf (OpenSpec.ofChange Rows.wholeBehindSpec))=true:=by kernel_rfl
theorem j1:(laidOutB Ψ)=true:=by kernel_rfl
theorem j2:(mapsRowed Ψ)=true:=by kernel_rfl
theorem j3:(Tryz.f5.params.all (Ψ.readableRec ·))=true:=by kernel_rfl
theorem j4:(namedTie Ψ Rows.wholeBehindRow.named Rows.wholeBehindSpec.vars)=true:=by kernel_rfl
theorem j5:(Rows.wholeBehindRow.stops==[])=true:=by kernel_rfl
theorem j6:(Ψ.stops==[])=true:=by kernel_rfl
theorem j7:(Rows.wholeBehindRow.knobs==[])=true:=by kernel_rfl
theorem j8:(Ψ.stopKnobs==[])=true:=by kernel_rfl
theorem j9:(Rows.wholeBehindRow.inPlace==Ψ.inPlace 5)=true:=by kernel_rfl
theorem HJ:(Rows.wholeBehindRow.unfollowed==Ψ.unfollowed 5)=true:=by kernel_rfl
theorem HW:(Rows.wholeBehindRow.recurses==Ψ.recurses 5)=true:=by kernel_rfl
theorem HZ:(Rows.wholeBehindRow.named==Ψ.varsNamed 5)=true:=by kernel_rfl
theorem Ia:(Rows.wholeBehindRow.maps==(Tryz.f5.params.toList++Rows.wholeBehindSpec.plain.varTypes Ψ).any (Ψ.mapsRec ·))=true:=by kernel_rfl
theorem Ib:(Rows.wholeBehindRow.ifaces==(Tryz.f5.params.toList++Rows.wholeBehindSpec.plain.varTypes Ψ).any (Ψ.ifacesRec ·))=true:=by kernel_rfl
theorem Ic:(Rows.wholeBehindRow.mapsOut==Ψ.mapsAmong Tryz.f5.resultTypes.toList)=true:=by kernel_rfl
theorem Ie:(Rows.wholeBehindRow.loops==(Tryz.f5.params.toList++Rows.wholeBehindSpec.plain.varTypes Ψ).any (Ψ.loopsFrom ·))=true:=by kernel_rfl
theorem If:(Rows.wholeBehindRow.wideKeys==(Tryz.f5.params.toList++Rows.wholeBehindSpec.plain.varTypes Ψ++Tryz.f5.resultTypes.toList).any (Ψ.wideKeysFrom ·))=true:=by kernel_rfl
theorem Ig:(Rows.wholeBehindSpec.vars.all (Ψ.varReadable ·))=true:=by kernel_rfl
theorem Ih:(Tryz.f5.resultTypes.all (λt=>Ψ.readableRec t && decide (t<Ψ.types.size)))=true:=by kernel_rfl
theorem Ii:(Rows.wholeBehindRow.ifacesOut==Tryz.f5.resultTypes.toList.any (Ψ.ifacesRec ·))=true:=by kernel_rfl
theorem Ij:(Rows.wholeBehindRow.loopsOut==Tryz.f5.resultTypes.toList.any (Ψ.loopsFrom ·))=true:=by kernel_rfl
theorem Ik:(Rows.wholeBehindRow.plainKeys==Ψ.plainKeys)=true:=by kernel_rfl
theorem Il:(Rows.wholeBehindRow.shortTexts.isNone)=true:=by kernel_rfl
theorem Im:(Ψ.stopsHeard)=true:=by kernel_rfl
theorem In:(Ψ.mayEnter)=true:=by kernel_rfl
theorem Io:(Rows.wholeBehindRow.lifted==Ψ.liftsFinal)=true:=by kernel_rfl
theorem Ip:(Ψ.make==some Rows.wholeBehindRow.make)=true:=by kernel_rfl
theorem Iq:(Rows.wholeBehindRow.kinds==(if Rows.wholeBehindRow.domain.isEmpty then [] else Tryz.f5.params.toList.map λt=>match Ψ.underlying t with|some (.int k)=>some k|_=>none))=true:=by kernel_rfl
theorem Ir:(Rows.wholeBehindRow.pinned==Rows.wholeBehindRow.pinnedBy)=true:=by kernel_rfl
theorem Is:(Rows.wholeBehindRow.veiled==(Tryz.f5.params.toList++Rows.wholeBehindSpec.plain.varTypes Ψ++Tryz.f5.resultTypes.toList).any (Ψ.veiledRec ·))=true:=by kernel_rfl
theorem Iu:(Rows.wholeBehindRow.veiledFits Ψ Tryz.f5.params.toList (Tryz.f5.params.toList++Rows.wholeBehindSpec.plain.varTypes Ψ++Tryz.f5.resultTypes.toList))=true:=by kernel_rfl
theorem Cn:joinedFacts Ψ 5 Tryz.f5 Rows.wholeBehindSpec Rows.wholeBehindRow=true:=by unfold joinedFacts;exact(dv (dv (dv (dv (dv (dv (dv (dv (dv (dv (dv (dv (dv (dv (dv (dv (dv (dv (dv (dv (dv (dv (dv (dv (dv (dv (dv (dv (dv (dv (dv j0 j1) j2) j3) j4) j5) j6) j7) j8) j9) HJ) HW) HZ) Ia) Ib) Ic) Ie) If) Ig) Ih) Ii) Ij) Ik) Il) Im) In) Io) Ip) Iq) Ir) Is) Iu)
theorem named:Ψ.funcNamed Rows.wholeBehindRow.func=some 5:=by kernel_rfl
end wholeBehindDone
end Go.Proofs.YtfdlemkplejdnaaGreat
