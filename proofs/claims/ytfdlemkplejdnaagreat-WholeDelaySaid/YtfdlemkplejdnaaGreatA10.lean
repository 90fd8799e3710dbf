/- WholeDelay, part 10. Conditions: none. -/
import Derived.Test.YtfdlemkplejdnaaGreatA7
namespace Go.Proofs.YtfdlemkplejdnaaGreat
open Go.RowKit Go.Sort
open Value renaming int->ι,pointer->ψ,slice->ζ,tuple->χ,agg->φ,map->μ,bool->β
open IntKind renaming u64->υ,i64->ε,u16->ω
open Ending renaming returned->ϰ
open Go.Proofs.Tryz renaming prog->Ψ,underlying3->Θ,underlying147->Δ,underlying152->Γ,underlying202->Φ,underlying39->Ξ,underlying207->Ω
open Go renaming World->ϖ,Value->ϗ
set_option linter.unusedVariables false
set_option linter.unusedSimpArgs false
set_option maxHeartbeats 8000000
set_option maxRecDepth 100000
structure WN where
 (at_ p:Int)
def WN.ok (v:WN):Prop:=vk v.at_ (v.p*65536)
def WN.start (m d n:Int)(v:WN):RN:=RN.start m d n v.at_ (v.p*65536)
def WN.ready (m d n:Int)(v:WN):RN:=RN.ready m d n v.at_ (v.p*65536)
theorem ir {r s t:RN} (h1:r.alike s)(h2:s.alike t):r.alike t:=⟨h1.1.trans h2.1,λh=>(h1.2.1 h).trans (h2.2.1 (by rw[<- h1.1];exact h)),h1.2.2.trans h2.2.2⟩
theorem i5 {r s:RN} (h:r.alike s):s.alike r:=⟨h.1.symm,λhb=>(h.2.1 (by rw[h.1];exact hb)).symm,h.2.2.symm⟩
theorem lU {r s t:RN} (h1:r.alike t)(h2:s.alike t):(RN.meet r s).alike t:=by
 refine⟨h1.1,λhb=>?_,?_⟩
 ·have f':r.b=true:=hb;show (if r.b then LN.low r.f s.f else LN.zero).M=t.f.M;rw[ZP f'];unfold LN.low;split
  ·exact h2.2.1 (by rw[h2.1,<- h1.1];exact f')
  ·exact h1.2.1 f'
 ·show (LN.low r.t s.t).M=t.t.M;unfold LN.low;split
  ·exact h2.2.2
  ·exact h1.2.2
theorem tu {r s:RN} {x:Int} (h:r.alike s)(h1:r.begun x)(h2:s.begun x):(RN.meet r s).begun x:=by
 refine⟨λhb=>?_,?_⟩
 ·have f':r.b=true:=hb;show (if r.b then LN.low r.f s.f else LN.zero).X<=x;rw[ZP f'];unfold LN.low;split
  ·exact h2.1 (by rw[<- h.1];exact f')
  ·exact h1.1 f'
 ·show (LN.low r.t s.t).X<=x;unfold LN.low;split
  ·exact h2.2
  ·exact h1.2
def WN.val (m d n x:Int)(v:WN):Int:=v.p*65536+sv m d n (x - v.at_)
def lst (m d n x:Int)(w:WN)(l:List WN):Int:=l.foldl (λa v=>if v.val m d n x<a then v.val m d n x else a) (w.val m d n x)
def il (m d n:Int)(ws:List WN)(r:RN):Prop:=r.small/\r.alike (RN.start m d n 0 0)/\(∃v ∈ ws,r.t=(v.start m d n).t)/\(r.b=true->∃v ∈ ws,r.f=(v.start m d n).f)
theorem il.one {m d n:Int} (hc:cV m d n) {v:WN} (hv:v.ok):il m d n [v] (v.start m d n):=
 ⟨bj hc hv,bG ..,⟨v,ZS.2 rfl,rfl⟩,λ_=>⟨v,ZS.2 rfl,rfl⟩⟩
theorem il.meet {m d n:Int} (hc:cV m d n) {ws:List WN} {r:RN} (h:il m d n ws r) {v:WN} (hv:v.ok):il m d n (ws++[v]) (RN.meet r (v.start m d n)):=by
 obtain⟨h1,h2,⟨u,hu,h3⟩,h4⟩:=h;refine⟨RN.meet_small h1 (bj hc hv),lU h2 (bG ..),?_,λhb=>?_⟩
 ·show ∃v' ∈ ws++[v],LN.low r.t (v.start m d n).t=(v'.start m d n).t;unfold LN.low;split
  ·exact⟨v,by simp,rfl⟩
  ·exact⟨u,by simp[hu],h3⟩
 ·have f':r.b=true:=hb;show ∃v' ∈ ws++[v],(if r.b then LN.low r.f (v.start m d n).f else LN.zero)=(v'.start m d n).f;rw[ZP f'];obtain⟨u',Uo,h5⟩:=h4 f';unfold LN.low;split
  ·exact⟨v,by simp,rfl⟩
  ·exact⟨u',by simp[Uo],h5⟩
def WN.asked (m d n x:Int)(v:WN):Int:=if v.at_<x then v.val m d n x else v.p*65536
theorem iF {m d n x:Int} (hc:cV m d n)(v:WN)(hv:v.ok)(hx:x<=Mb):(v.start m d n).at x=v.asked m d n x:=by
 have hv':=hv;unfold WN.ok vk at hv';unfold WN.asked;split
 ·have:=pg (t:=x - v.at_) hc hv ρa;unfold WN.start WN.val;rw[<- this,show v.at_+(x - v.at_)=x by omega]
 ·have hs:=bj hc hv;obtain⟨hk,hm,hd,hn⟩:=hc;unfold WN.start RN.start RN.ready at*;by_cases h4:kd m d n=4
  ·rw[ZP h4] at hs ⊢;rw[RN.at_t rfl,LN.at_lo ρR]
  rw[ZI h4] at hs ⊢;by_cases h3:kd m d n=3
  ·rw[ZI ρa,ZP h3] at hs ⊢;have hp:=xN h3;have hq:=lh ⟨hk,hm,hd,hn⟩ (show n<=m by omega);unfold RN.at;simp only[if_true];rw[LN.at_lo ρR,LN.at_lo ρR];simp only[iq ⟨hk,hm,hd,hn⟩ hv (show n<=m by omega)];split<;>omega
  ·by_cases h2:kd m d n=2
   ·rw[ZP (.inl h2)] at hs ⊢;rw[RN.at_t rfl,LN.at_lo ρR]
   ·rw[ZI ρa,ZI h3] at hs ⊢;rw[RN.at_t rfl,LN.at_lo ρR]
theorem sY {m d n x:Int} (hc:cV m d n) {ws:List WN} {r:RN} (h:il m d n ws r)(Qf:∀v ∈ ws,v.ok)(hx:x<=Mb):∃v ∈ ws,v.asked m d n x<=r.at x:=by
 obtain⟨h1,h2,⟨u,hu,h3⟩,h4⟩:=h;have ht:u.asked m d n x<=r.t.at x:=by rw[<- iF hc u (Qf u hu) hx,h3];exact RN.at_le_t _ _
 unfold RN.at;split
 ·rename_i hb;obtain⟨u',Uo,h5⟩:=h4 hb;have hf:u'.asked m d n x<=r.f.at x:=by
   have f':(u'.start m d n).b=true:=ηy
   rw[<- iF hc u' (Qf u' Uo) hx,h5];exact RN.at_le_f _ f' _
  split
  ·exact⟨u',Uo,hf⟩
  ·exact⟨u,hu,ht⟩
 ·exact⟨u,hu,ht⟩
theorem vK {m d n P:Int} (hc:cV m d n) {ws:List WN} {r:RN} (h:il m d n ws r)(Qf:∀v ∈ ws,v.ok/\v.p<=P):r.at 0<=P*65536:=by
 obtain⟨h1,h2,⟨u,hu,h3⟩,h4⟩:=h;have hm:=RN.at_le_main r 0;have e:∃v ∈ ws,r.main=(v.start m d n).main:=by
  unfold RN.main;split
  ·rename_i hb;obtain⟨u',Uo,h5⟩:=h4 hb;have f':(u'.start m d n).b=true:=ηy
   exact⟨u',Uo,by rw[ZP f'];exact h5⟩
  ·rename_i hb;have f':(u.start m d n).b=false:=by
    have e1:r.b=(RN.start m d n 0 0).b:=h2.1;have e2:(u.start m d n).b=(RN.start m d n 0 0).b:=(bG ..).1;rw[e2,<- e1];simpa using hb
   exact⟨u,hu,by rw[f'];simpa using h3⟩
 obtain⟨v,hv,e⟩:=e;have hv':=(Qf v hv).1;unfold WN.ok vk at hv';have hd:=hc.2.2.1.1;rw[e] at hm;unfold WN.start at hm;rw[LN.at_lo (by rw[gU];split<;>omega),jI] at hm;have:=(Qf v hv).2;omega
def ls (m d n:Int)(D E:RN):Prop:=D.small/\E.small/\(kd m d n≠4->D=E)/\(kd m d n=4->D.b=false/\E.b=false/\D.t=⟨E.t.X+d,E.t.Y,E.t.M⟩/\E.t.M=n)
theorem ls.one {m d n:Int} (hc:cV m d n)(v:WN)(hv:v.ok):ls m d n (v.start m d n) (v.ready m d n):=by refine⟨bj hc hv,fG hc hv,λh=>(iB h).symm,λh=>?_⟩;unfold WN.start WN.ready;rw[pf h,jE h];exact⟨rfl,rfl,rfl,rfl⟩
theorem vV {a b:LN} {n d:Int} (hd:kM d)(ha:a.small)(hb:b.small)(hna:a.M=n)(hnb:b.M=n)(sa:LN.small ⟨a.X+d,a.Y,a.M⟩)(sb:LN.small ⟨b.X+d,b.Y,b.M⟩):
  LN.lowB ⟨a.X+d,a.Y,a.M⟩ ⟨b.X+d,b.Y,b.M⟩=LN.lowB a b:=by
 obtain⟨xa,ya,M⟩:=a;obtain⟨xb,yb,M'⟩:=b;simp only[] at hna hnb;subst hna hnb;have Pc:=ha.2;have f':=hb.2;have sa':=sa.2;have sb':=sb.2;simp only[] at Pc f' sa' sb';have e1:=LN.at_from (x:=max (xa+d) (xb+d)) sa ρR ρa;have e2:=LN.at_from (x:=max (xa+d) (xb+d)) sb ρR ρa;have e3:=LN.at_from (x:=max xa xb) ha ρR ρa;have e4:=LN.at_from (x:=max xa xb) hb ρR ρa;unfold LN.lowB Go.Proofs.YtfdlemkplejdnaaGreat.lowB;unfold LN.at at e1 e2 e3 e4;simp only[] at e1 e2 e3 e4 ⊢;rw[e1,e2,e3,e4,show max (xa+d) (xb+d) - (xa+d)=max xa xb - xa by omega,show max (xa+d) (xb+d) - (xb+d)=max xa xb - xb by omega]
theorem ls.meet {m d n:Int} (hc:cV m d n) {D E:RN} (h:ls m d n D E)(v:WN)(hv:v.ok):ls m d n (RN.meet D (v.start m d n)) (RN.meet E (v.ready m d n)):=by
 obtain⟨h1,h2,h3,h4⟩:=h;refine⟨RN.meet_small h1 (bj hc hv),RN.meet_small h2 (fG hc hv),λhk=>?_,λhk=>?_⟩
 ·rw[h3 hk];unfold WN.start WN.ready;rw[iB hk]
 ·obtain⟨g1,g2,g3,g4⟩:=h4 hk;refine⟨g1,g2,?_,?_⟩
  ·show LN.low D.t (v.start m d n).t=⟨(LN.low E.t (v.ready m d n).t).X+d,(LN.low E.t (v.ready m d n).t).Y,(LN.low E.t (v.ready m d n).t).M⟩;have ss:=bj hc hv;have sr:=fG hc hv;unfold WN.start WN.ready;rw[pf hk] at ss ⊢;rw[jE hk] at sr ⊢;have h1t:=h1.2;rw[g3] at h1t ⊢;have:=vV (n:=n) (d:=d) (a:=E.t) (b:=⟨v.at_,v.p*65536,n⟩) hc.2.2.1 h2.2 sr.2 g4 rfl h1t ss.2;unfold LN.low;simp only[] at this ⊢;rw[this];split<;>rfl
  ·show (LN.low E.t (v.ready m d n).t).M=n;unfold LN.low WN.ready;rw[jE hk];split
   ·rfl
   ·exact g4
theorem ls.le {m d n:Int} (hc:cV m d n) {D E:RN} (h:ls m d n D E) {x:Int} (hx:x<=Mc):D.at x<=E.at x:=by
 obtain⟨h1,h2,h3,h4⟩:=h;by_cases hk:kd m d n=4
 ·obtain⟨g1,g2,g3,g4⟩:=h4 hk;rw[RN.at_t g1,RN.at_t g2];have hd:=hc.2.2.1;have s1:=h1.2;have s2:=h2.2;rw[g3] at s1 ⊢;have hM:=s2.1.2.1;by_cases c1:x<=E.t.X+d
  ·rw[LN.at_lo (l:=⟨E.t.X+d,E.t.Y,E.t.M⟩) c1];simp only[];by_cases c2:x<=E.t.X
   ·rw[LN.at_lo c2];exact ZJ _
   ·rw[LN.at_from s2 ρa ρa];have:=Int.mul_nonneg hM (show 0<=x - E.t.X by omega);omega
  ·rw[LN.at_from s1 ρR ρa,LN.at_from s2 ρa ρa];simp only[];have:=ZU (show x - (E.t.X+d)<=x - E.t.X by omega) hM;omega
 ·rw[h3 hk];exact ZJ _
theorem ls.elig {m d n:Int} (hc:cV m d n) {D E:RN} (h:ls m d n D E) {W W':Int} (hW:0<=W)(hWW:W<=W'):E.reach W<=D.reach W':=by
 have r1:=RN.reach_rng (RN.small_ok h.1) W';have r2:=RN.reach_rng (RN.small_ok h.2.1) W;by_cases hn:D.reach W'=Mc
 ·omega
 ·have i1:=RN.reach_iff (x:=D.reach W') h.1 (show 0<=W' by omega) r1.1 ρa;have i2:=RN.reach_iff (x:=D.reach W') h.2.1 hW r1.1 ρa;have:=h.le hc (x:=D.reach W') ρa;rw[i2];have:=i1.1 (ZJ _);omega
theorem qP {m d n:Int} (hc:cV m d n) {ws:List WN} {r:RN} (h:il m d n ws r) {P W:Int} (hP:0<=P)(Qf:∀v ∈ ws,v.ok/\v.p<=P)(hW:P*65536<W):1<=r.reach W/\∃v ∈ ws,v.asked m d n (r.reach W - 1)<W:=by
 have r1:=RN.reach_rng (RN.small_ok h.1) W;have hz:=vK hc h Qf;have h1:1<=r.reach W:=by have:=RN.reach_iff (x:=0) h.1 (show 0<=W by omega) ρa ρa;omega
 refine⟨h1,?_⟩;have:=RN.reach_iff (x:=r.reach W - 1) h.1 (show 0<=W by omega) ρa ρa;obtain⟨v,hv,Pe⟩:=sY (x:=r.reach W - 1) hc h (λv hv=>(Qf v hv).1) ρa;exact⟨v,hv,by omega⟩
structure LF where
 (has:Bool)
 (D E:RN)
 (p e t:Int)
abbrev eA (l:LF):ϗ:=φ #[β l.has,ι υ l.D.f.X,ι υ (hi (l.D.f.Y)),ι υ (lo (l.D.f.Y)),ι υ l.D.f.M,ι υ l.D.t.X,ι υ (hi (l.D.t.Y)),ι υ (lo (l.D.t.Y)),ι υ l.D.t.M,β l.D.b,ι υ l.E.f.X,ι υ (hi (l.E.f.Y)),ι υ (lo (l.E.f.Y)),ι υ l.E.f.M,ι υ l.E.t.X,ι υ (hi (l.E.t.Y)),ι υ (lo (l.E.t.Y)),ι υ l.E.t.M,β l.E.b,ι υ l.p,ι υ l.e,ι υ l.t]
theorem nQ (p q:Int)(w:ϖ)(hp:aq p)(hq:p*65536=q):
  CB 203 #[p] w (wv q):=by
 have Hq:=ag hq;clear hq;unfold CB;go_in;go_wp2_with fail;refine(gA p 65536 q _ hp ρa Hq.out).mono ?_;rintro e w1 ⟨rfl,JL⟩;have R1:ah w1 w #[Ky,Ky] 232:=Zv JL;refine ηY ?_;intro g1 J3;clear JL;have Rr:=R1.r;go_wp2;exact Eb w (mG q) 232 rfl (λ_ cv=>(by simp[results,Tryz.results203,go_sem,cv]))
theorem vN (l:LF)(h:Int)(w:ϖ)(hh:¬0<h):
  CB 207 #[eA l,ι ε h] w (φ (dD l.has l.D l.E l.p Mc Mc)):=by
 have d1:decide (0<h)=false:=ZF hh;unfold CB;go_in;go_upto_region 5 with (fail);refine δO ?_;rintro w1 ⟨g1,A1,R1⟩;have J3:=g1.size;have Rr:=θ2 A1.r R1.r;go_wp2_with (first|(refine eB 238 (.tmp 2) w (dD l.has l.D l.E l.p Mc Mc) 238 _ ρs ρs ρs ρB Tryz.underlying238 rfl ρh ?_)|(refine ed 238 (.tmp 4) (.tmp 26) (w+1) mT (dD l.has l.D l.E l.p Mc Mc) 238 ρs ρs ρs ρs ρB rfl ρh σg ?_;intro v Bv kB kO hs;have gv:Below w w v:=kB _ _ ρb ρE;clear kB kO hs));refine ZO (v:=φ (dD l.has l.D l.E l.p Mc Mc)) ?_ ?_ ?_
 ·exact bF (w+1) (dD l.has l.D l.E l.p Mc Mc) 238 _ _ _ Tryz.results207 ρs Bv Tryz.underlying238 rfl ρh
 ·rfl
 ·exact⟨rfl,gv⟩
theorem sZ (l:LF)(h p1 q p2 ev tv:Int)(w:ϖ)(hh:0<h)(hh':h<=Mb)(oD:l.D.ok)(oE:l.E.ok)(hp:aq l.p)(h1:l.p*65536=p1)(i1:ai p1)(hq:IntKind.u64.wrap (l.p+h)=q)(q0:aq q)(h2:q*65536=p2)(i2:ai p2)(h3:l.E.reach p1=ev)(h4:l.D.reach p2=tv):
  CB 207 #[eA l,ι ε h] w (φ (dD l.has l.D l.E l.p ev tv)):=by
 have d1:decide (0<h)=true:=ZT hh;have hwh:IntKind.u64.wrap h=h:=ZZ _ ⟨by omega,by omega⟩;have H1:=ag h1;have H2:=ag h2;have H3:=ag h3;have H4:=ag h4;clear h1 h2 h3 h4;unfold CB;go_in;go_upto_region 3 with (fail);refine δO ?_;rintro w1 ⟨g1,A1,R1⟩;have J3:=g1.size;have Rr:=θ2 A1.r R1.r;go_region_held3 (λv=>v.cell? ⟨w,10,none⟩=some (ι υ l.E.f.X)/\v.cell? ⟨w,11,none⟩=some (ι υ (hi (l.E.f.Y)))/\v.cell? ⟨w,12,none⟩=some (ι υ (lo (l.E.f.Y)))/\v.cell? ⟨w,13,none⟩=some (ι υ l.E.f.M)/\v.cell? ⟨w,14,none⟩=some (ι υ l.E.t.X)/\v.cell? ⟨w,15,none⟩=some (ι υ (hi (l.E.t.Y)))/\v.cell? ⟨w,16,none⟩=some (ι υ (lo (l.E.t.Y)))/\v.cell? ⟨w,17,none⟩=some (ι υ l.E.t.M)/\v.cell? ⟨w,18,none⟩=some (β l.E.b)/\v.cell? ⟨w,19,none⟩=some (ι υ l.p)/\w.heap.size<v/\Below w w v)
  (first
   | (refine⟨?_,?_,?_,?_,?_,?_,?_,?_,?_,?_,?_,?_⟩<;>first | (with_reducible assumption) | ((repeat' (first | (with_reducible (first | exact Below.refl _ _ | assumption | refine below_drewN ?_ _ | refine Below.drew ?_ | refine Below.alloc ?_ ?_ _ | refine Below.setCell ?_ ?_ _)) | go_size));done) | omega | (go_simp;done) | (simp;done)))
  (first
   | (go_at_call 203;(with_reducible refine(nQ l.p p1 _ hp H1.out).mono ?_);refine bm ?_;intro w' f' JZ JY;have JQ:=A1.tr f';have rA:=JQ.r;have J':=R1.tr f';have rR:=J'.r;have Ng:w'.cell? ⟨w,10,none⟩=some (ι υ l.E.f.X):=((f'.cell ρb).trans ρe);have KV:w'.cell? ⟨w,11,none⟩=some (ι υ (hi (l.E.f.Y))):=((f'.cell ρb).trans ρe);have LU:w'.cell? ⟨w,12,none⟩=some (ι υ (lo (l.E.f.Y))):=((f'.cell ρb).trans ρe);have hq3:w'.cell? ⟨w,13,none⟩=some (ι υ l.E.f.M):=((f'.cell ρb).trans ρe);have hq4:w'.cell? ⟨w,14,none⟩=some (ι υ l.E.t.X):=((f'.cell ρb).trans ρe);have hq5:w'.cell? ⟨w,15,none⟩=some (ι υ (hi (l.E.t.Y))):=((f'.cell ρb).trans ρe);have hq6:w'.cell? ⟨w,16,none⟩=some (ι υ (lo (l.E.t.Y))):=((f'.cell ρb).trans ρe);have hq7:w'.cell? ⟨w,17,none⟩=some (ι υ l.E.t.M):=((f'.cell ρb).trans ρe);have hq8:w'.cell? ⟨w,18,none⟩=some (β l.E.b):=((f'.cell ρb).trans ρe);have hq9:w'.cell? ⟨w,19,none⟩=some (ι υ l.p):=((f'.cell ρb).trans ρe);clear f')
   | (go_at_call 218;(with_reducible refine(iC l.E p1 ev _ oE i1 H3.out).mono ?_);refine bm ?_;intro w' f' JZ JY;have JQ:=A1.tr f';have rA:=JQ.r;have J':=R1.tr f';have rR:=J'.r;have Ng:w'.cell? ⟨w,10,none⟩=some (ι υ l.E.f.X):=((f'.cell ρb).trans ρe);have KV:w'.cell? ⟨w,11,none⟩=some (ι υ (hi (l.E.f.Y))):=((f'.cell ρb).trans ρe);have LU:w'.cell? ⟨w,12,none⟩=some (ι υ (lo (l.E.f.Y))):=((f'.cell ρb).trans ρe);have hq3:w'.cell? ⟨w,13,none⟩=some (ι υ l.E.f.M):=((f'.cell ρb).trans ρe);have hq4:w'.cell? ⟨w,14,none⟩=some (ι υ l.E.t.X):=((f'.cell ρb).trans ρe);have hq5:w'.cell? ⟨w,15,none⟩=some (ι υ (hi (l.E.t.Y))):=((f'.cell ρb).trans ρe);have hq6:w'.cell? ⟨w,16,none⟩=some (ι υ (lo (l.E.t.Y))):=((f'.cell ρb).trans ρe);have hq7:w'.cell? ⟨w,17,none⟩=some (ι υ l.E.t.M):=((f'.cell ρb).trans ρe);have hq8:w'.cell? ⟨w,18,none⟩=some (β l.E.b):=((f'.cell ρb).trans ρe);have hq9:w'.cell? ⟨w,19,none⟩=some (ι υ l.p):=((f'.cell ρb).trans ρe);clear f'))
 all_goals
  go_upto_region 4 with (fail);refine aH (λv=>Below w w v/\ah v w (dD l.has l.D l.E l.p ev Mc) 238/\ah v (w+1) mT 238) ⟨ρE,ρB,ρB⟩ ?_;rintro w2 ⟨g2,A2,R2⟩;have KN:=g2.size;replace Rr:=θ2 A2.r R2.r;go_region_held3 (λv=>v.cell? ⟨w,1,none⟩=some (ι υ l.D.f.X)/\v.cell? ⟨w,2,none⟩=some (ι υ (hi (l.D.f.Y)))/\v.cell? ⟨w,3,none⟩=some (ι υ (lo (l.D.f.Y)))/\v.cell? ⟨w,4,none⟩=some (ι υ l.D.f.M)/\v.cell? ⟨w,5,none⟩=some (ι υ l.D.t.X)/\v.cell? ⟨w,6,none⟩=some (ι υ (hi (l.D.t.Y)))/\v.cell? ⟨w,7,none⟩=some (ι υ (lo (l.D.t.Y)))/\v.cell? ⟨w,8,none⟩=some (ι υ l.D.t.M)/\v.cell? ⟨w,9,none⟩=some (β l.D.b)/\v.cell? ⟨w,19,none⟩=some (ι υ l.p)/\w.heap.size<v/\Below w w v)
   (first
    | (refine⟨?_,?_,?_,?_,?_,?_,?_,?_,?_,?_,?_,?_⟩<;>first | (with_reducible assumption) | ((repeat' (first | (with_reducible (first | exact Below.refl _ _ | assumption | refine below_drewN ?_ _ | refine Below.drew ?_ | refine Below.alloc ?_ ?_ _ | refine Below.setCell ?_ ?_ _)) | go_size));done) | omega | (go_simp;done) | (simp;done)))
   (first
    | (go_at_call 203;(with_reducible refine(nQ q p2 _ q0 H2.out).mono ?_);refine bm ?_;intro w' f' JZ JY;have JQ:=A2.tr f';have rA:=JQ.r;have J':=R2.tr f';have rR:=J'.r;have Ng:w'.cell? ⟨w,1,none⟩=some (ι υ l.D.f.X):=((f'.cell ρb).trans ρe);have KV:w'.cell? ⟨w,2,none⟩=some (ι υ (hi (l.D.f.Y))):=((f'.cell ρb).trans ρe);have LU:w'.cell? ⟨w,3,none⟩=some (ι υ (lo (l.D.f.Y))):=((f'.cell ρb).trans ρe);have hq3:w'.cell? ⟨w,4,none⟩=some (ι υ l.D.f.M):=((f'.cell ρb).trans ρe);have hq4:w'.cell? ⟨w,5,none⟩=some (ι υ l.D.t.X):=((f'.cell ρb).trans ρe);have hq5:w'.cell? ⟨w,6,none⟩=some (ι υ (hi (l.D.t.Y))):=((f'.cell ρb).trans ρe);have hq6:w'.cell? ⟨w,7,none⟩=some (ι υ (lo (l.D.t.Y))):=((f'.cell ρb).trans ρe);have hq7:w'.cell? ⟨w,8,none⟩=some (ι υ l.D.t.M):=((f'.cell ρb).trans ρe);have hq8:w'.cell? ⟨w,9,none⟩=some (β l.D.b):=((f'.cell ρb).trans ρe);have hq9:w'.cell? ⟨w,19,none⟩=some (ι υ l.p):=((f'.cell ρb).trans ρe);clear f')
    | (go_at_call 218;(with_reducible refine(iC l.D p2 tv _ oD i2 H4.out).mono ?_);refine bm ?_;intro w' f' JZ JY;have JQ:=A2.tr f';have rA:=JQ.r;have J':=R2.tr f';have rR:=J'.r;have Ng:w'.cell? ⟨w,1,none⟩=some (ι υ l.D.f.X):=((f'.cell ρb).trans ρe);have KV:w'.cell? ⟨w,2,none⟩=some (ι υ (hi (l.D.f.Y))):=((f'.cell ρb).trans ρe);have LU:w'.cell? ⟨w,3,none⟩=some (ι υ (lo (l.D.f.Y))):=((f'.cell ρb).trans ρe);have hq3:w'.cell? ⟨w,4,none⟩=some (ι υ l.D.f.M):=((f'.cell ρb).trans ρe);have hq4:w'.cell? ⟨w,5,none⟩=some (ι υ l.D.t.X):=((f'.cell ρb).trans ρe);have hq5:w'.cell? ⟨w,6,none⟩=some (ι υ (hi (l.D.t.Y))):=((f'.cell ρb).trans ρe);have hq6:w'.cell? ⟨w,7,none⟩=some (ι υ (lo (l.D.t.Y))):=((f'.cell ρb).trans ρe);have hq7:w'.cell? ⟨w,8,none⟩=some (ι υ l.D.t.M):=((f'.cell ρb).trans ρe);have hq8:w'.cell? ⟨w,9,none⟩=some (β l.D.b):=((f'.cell ρb).trans ρe);have hq9:w'.cell? ⟨w,19,none⟩=some (ι υ l.p):=((f'.cell ρb).trans ρe);clear f'))
  all_goals
   go_upto_region 5 with (fail);refine aH (λv=>Below w w v/\ah v w (dD l.has l.D l.E l.p ev tv) 238/\ah v (w+1) mT 238) ⟨ρE,ρB,ρB⟩ ?_;rintro w3 ⟨g3,A3,R3⟩;have MU:=g3.size;replace Rr:=θ2 A3.r R3.r;go_wp2_with (first|(refine eB 238 (.tmp 2) w (dD l.has l.D l.E l.p ev tv) 238 _ ρs ρs ρs ρB Tryz.underlying238 rfl ρh ?_)|(refine ed 238 (.tmp 4) (.tmp 26) (w+1) mT (dD l.has l.D l.E l.p ev tv) 238 ρs ρs ρs ρs ρB rfl ρh σg ?_;intro v Bv kB kO hs;have gv:Below w w v:=kB _ _ ρb ρE;clear kB kO hs));refine ZO (v:=φ (dD l.has l.D l.E l.p ev tv)) ?_ ?_ ?_
   ·exact bF (w+1) (dD l.has l.D l.E l.p ev tv) 238 _ _ _ Tryz.results207 ρs Bv Tryz.underlying238 rfl ρh
   ·rfl
   ·exact⟨rfl,gv⟩
theorem r9 (x:Int):0<=IntKind.u64.wrap x/\IntKind.u64.wrap x<=Ma:=by rw[IntKind.wrap_u64];omega
def LF.ok (l:LF):Prop:=l.D.ok/\l.E.ok/\(0<=l.p/\l.p<=Ma)
def LF.headed (l:LF)(h:Int):LF:=if 0<h then ⟨l.has,l.D,l.E,l.p,l.E.reach (l.p*65536),l.D.reach (IntKind.u64.wrap (l.p+h)*65536)⟩ else ⟨l.has,l.D,l.E,l.p,9223372036854775808,9223372036854775808⟩
def LF.took (l:LF)(s h:Int):LF:=LF.headed ⟨l.has,l.D,l.E,IntKind.u64.wrap (l.p+max s 0),l.e,l.t⟩ h
def LF.woke (l:LF)(m d n x:Int):LF:=⟨true,if l.has then RN.meet l.D (RN.start m d n x (l.p*65536)) else RN.start m d n x (l.p*65536),if l.has then RN.meet l.E (RN.ready m d n x (l.p*65536)) else RN.ready m d n x (l.p*65536),l.p,l.e,l.t⟩
theorem iY {p:Int} (h:aq p):ai (p*65536):=by unfold ai;omega
theorem fg (l r:LF)(h:Int)(w:ϖ)(hl:l.ok)(hh:-Mc<=h/\h<=Mb)(hr:l.headed h=r):
  CB 207 #[eA l,ι ε h] w (eA r):=by
 subst hr;unfold LF.headed;by_cases h0:0<h
 ·rw[ZP h0];exact sZ l h _ _ _ _ _ w h0 hh.2 hl.1 hl.2.1 hl.2.2 rfl (iY hl.2.2) rfl (r9 _) rfl (iY (r9 _)) rfl rfl
 ·rw[ZI h0];exact vN l h w h0
theorem tB (l r:LF)(h:Int)(w:ϖ)(hl:l.ok)(hh:-Mc<=h/\h<=Mb)(hr:l.headed h=r):
  CB 221 #[eA l,ι ε h] w (eA r):=by
 have Hr:=ag hr;clear hr;unfold CB;go_in;go_upto_region 1 with (fail);refine δZ ?_;rintro w1 ⟨g1,A1,R1⟩;have J3:=g1.size;have Rr:=θ2 A1.r R1.r;go_wp2_with (refine eB 238 (.tmp 2) w (dD l.has l.D l.E l.p l.e l.t) 238 _ ρs ρs ρs ρB Tryz.underlying238 rfl ρh ?_);refine(fg l r h _ hl hh Hr.out).mono ?_;rintro e w2 ⟨rfl,JR⟩;have R2:=R1.tr JR;refine η6 ?_;intro g2 KN;clear JR;replace Rr:=R2.r;go_wp2_with (first|(refine ed 238 (.tmp 4) (.tmp 7) (w+1) mT (dD r.has r.D r.E r.p r.e r.t) 238 ρs ρs ρs ρs ρB rfl ρh σg ?_;intro v Bv kB kO hs;have gv:Below w w v:=kB _ _ ρb ρE;clear kB kO hs));refine ZO (v:=φ (dD r.has r.D r.E r.p r.e r.t)) ?_ ?_ ?_
 ·exact bF (w+1) (dD r.has r.D r.E r.p r.e r.t) 238 _ _ _ Tryz.results221 ρs Bv Tryz.underlying238 rfl ρh
 ·rfl
 ·exact⟨rfl,gv⟩
theorem zH (l r:LF)(s h q:Int)(w:ϖ)(hl:l.ok)(hss:-Mc<=s/\s<=Mb)(hs:0<s)(hh:-Mc<=h/\h<=Mb)(hq:IntKind.u64.wrap (l.p+s)=q)(q0:aq q)(hr:LF.headed ⟨l.has,l.D,l.E,q,l.e,l.t⟩ h=r):
  CB 219 #[eA l,ι ε s,ι ε h] w (eA r):=by
 have Hr:=ag hr;clear hr;have hp:0<=l.p/\l.p<=Ma:=hl.2.2;have ok:LF.ok ⟨l.has,l.D,l.E,q,l.e,l.t⟩:=⟨hl.1,hl.2.1,q0⟩;obtain⟨mx,Yu⟩:=Nq (max s 0);have d1:¬s<0:=ρa;have hw:IntKind.u64.wrap s=s:=ZZ _ ⟨by omega,by omega⟩;unfold CB;go_in;go_upto_region 2 with (fail)
 all_goals
  refine aH (λv=>Below w w v/\ah v w (dD l.has l.D l.E q l.e l.t) 238/\ah v (w+1) mT 238) ⟨ρE,ρB,ρB⟩ ?_;rintro w1 ⟨g1,A1,R1⟩;have J3:=g1.size;have Rr:=θ2 A1.r R1.r;go_wp2_with (refine eB 238 (.tmp 3) w (dD l.has l.D l.E q l.e l.t) 238 _ ρs ρs ρs ρB Tryz.underlying238 rfl ρh ?_);refine(fg ⟨l.has,l.D,l.E,q,l.e,l.t⟩ r h _ ok hh Hr.out).mono ?_;rintro e w2 ⟨rfl,JR⟩;have R2:=R1.tr JR;refine η6 ?_;intro g2 KN;clear JR;replace Rr:=R2.r;go_wp2_with (first|(refine ed 238 (.tmp 6) (.tmp 16) (w+1) mT (dD r.has r.D r.E r.p r.e r.t) 238 ρs ρs ρs ρs ρB rfl ρh σg ?_;intro v Bv kB kO hs;have gv:Below w w v:=kB _ _ ρb ρE;clear kB kO hs));refine ZO (v:=φ (dD r.has r.D r.E r.p r.e r.t)) ?_ ?_ ?_
  ·exact ηH
  ·rfl
  ·exact⟨rfl,gv⟩
theorem zF (l r:LF)(s h q:Int)(w:ϖ)(hl:l.ok)(hss:-Mc<=s/\s<=Mb)(hs:s<=0)(hh:-Mc<=h/\h<=Mb)(hq:IntKind.u64.wrap (l.p+0)=q)(q0:aq q)(hr:LF.headed ⟨l.has,l.D,l.E,q,l.e,l.t⟩ h=r):
  CB 219 #[eA l,ι ε s,ι ε h] w (eA r):=by
 rw[Int.add_zero,ZZ _ ⟨hl.2.2.1,hl.2.2.2⟩] at hq;subst hq;have Hr:=ag hr;clear hr;have hp:0<=l.p/\l.p<=Ma:=hl.2.2;have ok:LF.ok ⟨l.has,l.D,l.E,l.p,l.e,l.t⟩:=⟨hl.1,hl.2.1,hp⟩;obtain⟨mx,Yu⟩:=Nq (max s 0);have hmx2:(if s<0 then (0:Int) else s)=0:=by split<;>omega
 unfold CB;go_in;go_upto_region 2 with (fail)
 all_goals
  refine δZ ?_;rintro w1 ⟨g1,A1,R1⟩;have J3:=g1.size;have Rr:=θ2 A1.r R1.r;go_wp2_with (refine eB 238 (.tmp 3) w (dD l.has l.D l.E l.p l.e l.t) 238 _ ρs ρs ρs ρB Tryz.underlying238 rfl ρh ?_);refine(fg ⟨l.has,l.D,l.E,l.p,l.e,l.t⟩ r h _ ok hh Hr.out).mono ?_;rintro e w2 ⟨rfl,JR⟩;have R2:=R1.tr JR;refine η6 ?_;intro g2 KN;clear JR;replace Rr:=R2.r;go_wp2_with (first|(refine ed 238 (.tmp 6) (.tmp 16) (w+1) mT (dD r.has r.D r.E r.p r.e r.t) 238 ρs ρs ρs ρs ρB rfl ρh σg ?_;intro v Bv kB kO hs;have gv:Below w w v:=kB _ _ ρb ρE;clear kB kO hs));refine ZO (v:=φ (dD r.has r.D r.E r.p r.e r.t)) ?_ ?_ ?_
  ·exact ηH
  ·rfl
  ·exact⟨rfl,gv⟩
theorem zD (l r:LF)(s h:Int)(w:ϖ)(hl:l.ok)(hs:-Mc<=s/\s<=Mb)(hh:-Mc<=h/\h<=Mb)(hr:l.took s h=r):
  CB 219 #[eA l,ι ε s,ι ε h] w (eA r):=by
 unfold LF.took at hr;by_cases h0:0<s
 ·rw[show max s 0=s by omega] at hr;exact zH l r s h _ w hl hs h0 hh rfl (r9 _) hr
 ·rw[show max s 0=0 by omega] at hr;exact zF l r s h _ w hl hs ρa hh rfl (r9 _) hr
def RN.time (r:RN)(p:Int):Int:=if r.b then max (max (r.reach (p*65536)) r.t.X) r.f.X else max (r.reach (p*65536)) r.t.X
theorem RN.time_rng {r:RN} (h:r.ok)(p:Int):0<=r.time p/\r.time p<=Ma:=by have h1:=RN.reach_rng h (p*65536);have h2:=h.1.1;have h3:=h.2.1;unfold RN.time;split<;>omega
theorem LN.reach_mono {l:LN} (h:l.small) {W W':Int} (h0:0<=W)(hW:W<=W'):l.reach W<=l.reach W':=by
 have r1:=LN.reach_rng (LN.small_ok h) W;have r2:=LN.reach_rng (LN.small_ok h) W';by_cases hn:l.reach W'=Mc
 ·omega
 ·have i1:=LN.reach_iff (x:=l.reach W') h (show 0<=W' by omega) r2.1 ρa;have i2:=LN.reach_iff (x:=l.reach W') h h0 r2.1 ρa;have:=i1.1 (ZJ _);exact i2.2 ρa
theorem RN.reach_mono {r:RN} (h:r.small) {W W':Int} (h0:0<=W)(hW:W<=W'):r.reach W<=r.reach W':=by have h1:=LN.reach_mono h.1 h0 hW;have h2:=LN.reach_mono h.2 h0 hW;unfold RN.reach;split<;>omega
def IW (m d n:Int):Prop:=kd m d n=2\/kd m d n=3
theorem IW.not4 {m d n:Int} (h:IW m d n):kd m d n≠4:=by rcases h with h|h<;>omega
theorem BS {m d n x y:Int} (h:kd m d n=2):RN.start m d n x y=⟨LN.zero,⟨x,y,n⟩,false⟩:=by unfold RN.start;rw[ZI ρa];unfold RN.ready;rw[ZP (.inl h)]
theorem lp {m d n x y:Int} (h:kd m d n=3):RN.start m d n x y=⟨⟨x,y,m⟩,⟨x,bf (y+(m - n)*d),n⟩,true⟩:=by unfold RN.start;rw[ZI ρa];unfold RN.ready;rw[ZI ρa,ZP h]
theorem FC (a b m:Int)(B:Nat)(t:TypeId)(w:ϖ)(hB:ah w B #[a,b] t)(ha:aq a)(hb:aq b)(hm:max a b=m):Calls Ψ 256 #[ζ B 2 2] w λe w'=>e=ϰ m/\w=w':=by
 have cB:=hB.cell;have zB:=hB.size;have Hm:=ag hm;clear hm;go_in;go_wp2;refine wp_loop_rounds 3 ?_;rw[cU];go_wp2
 all_goals
  rw[cU];go_wp2
  all_goals
   rw[cU];go_wp2
   all_goals
    go_ret;exact⟨dS (by have:=Hm.out;omega),rfl⟩
theorem FD (a b c m:Int)(B:Nat)(t:TypeId)(w:ϖ)(hB:ah w B (aJ a b c) t)(ha:aq a)(hb:aq b)(hc:aq c)(hm:max (max a b) c=m):Calls Ψ 256 #[ζ B 3 3] w λe w'=>e=ϰ m/\w=w':=by
 have cB:=hB.cell;have zB:=hB.size;have Hm:=ag hm;clear hm;go_in;go_wp2;refine wp_loop_rounds 4 ?_;rw[cU];go_wp2
 all_goals
  rw[cU];go_wp2
  all_goals
   rw[cU];go_wp2
   all_goals
    rw[cU];go_wp2
   all_goals
    go_ret;exact⟨dS (by have:=Hm.out;omega),rfl⟩
theorem t6 (r:RN)(p q v T:Int)(w:ϖ)(hb:r.b=false)(hr:r.ok)(hp:aq p)(hq:p*65536=q)(hv:r.reach q=v)(hT:max v r.t.X=T):
  CB 212 #[bT r,p] w T:=by
 have KV:ai q:=ρ9;have hv1:=RN.reach_rng hr q;rw[hv] at hv1;have Hq:=ag hq;have Hv:=ag hv;have HT:=ag hT;clear hq hv hT;have htX:=hr.2.1;have hfX:=hr.1.1;have cr:∀u,CB 218 #[φ #[r.f.X,(hi (r.f.Y)),(lo (r.f.Y)),r.f.M,r.t.X,(hi (r.t.Y)),(lo (r.t.Y)),r.t.M,dK],wv q] u v:=λu=>by have:=iC r q v u hr KV Hv.out;rw[bT,hb] at this;exact this
 have Hcr:=ag cr;clear cr;rw[bT,hb];clear hb;unfold CB;go_in;go_wp2_with fail;refine aH (λv=>Below w w v/\ah v w #[r.f.X,(hi (r.f.Y)),(lo (r.f.Y)),r.f.M,r.t.X,(hi (r.t.Y)),(lo (r.t.Y)),r.t.M,dK] 236) ⟨ρE,ρB⟩ ?_;rintro v1 ⟨Px,OC⟩;have TH:=ae OC;refine Wq ?_
 repeat (go_big_quiet_step ((first
   | (go_at_call 211;(with_reducible exact bZ (gA p 65536 q _ hp ρa Hq.out)))
   | (go_at_call 218;(with_reducible exact bZ (Hcr.out _))))))
 refine wpQuiet_nil ?_;intro _ Ov;obtain⟨pq,LX⟩:=Ov;subst LX;have JL:=ZW v1 pq.d pq.os;generalize Sort.grow (redrawn v1 pq.d) pq.os=w1 at*;have A1:ah w1 w #[r.f.X,(hi (r.f.Y)),(lo (r.f.Y)),r.f.M,r.t.X,(hi (r.t.Y)),(lo (r.t.Y)),r.t.M,dK] 236:=ah.below OC JL OC.size;have g1:Below w w w1:=Px.trans (JL.mono Px.size);have J3:w.heap.size<=w1:=g1.size;clear JL Px OC TH;have Rr:=A1.r;go_wp2_with fail;refine(FC v r.t.X T _ _ _ ρB ρa htX HT.out).mono ?_;rintro e w9 ⟨rfl,rfl⟩;go_wp2;go_ret;exact⟨rfl,ρE⟩
theorem wT (r:RN)(p q v T:Int)(w:ϖ)(hb:r.b=true)(hr:r.ok)(hp:aq p)(hq:p*65536=q)(hv:r.reach q=v)(hT:max (max v r.t.X) r.f.X=T):
  CB 212 #[bT r,p] w T:=by
 have KV:ai q:=ρ9;have hv1:=RN.reach_rng hr q;rw[hv] at hv1;have Hq:=ag hq;have Hv:=ag hv;have HT:=ag hT;clear hq hv hT;have htX:=hr.2.1;have hfX:=hr.1.1;have cr:∀u,CB 218 #[φ #[r.f.X,(hi (r.f.Y)),(lo (r.f.Y)),r.f.M,r.t.X,(hi (r.t.Y)),(lo (r.t.Y)),r.t.M,fK],wv q] u v:=λu=>by have:=iC r q v u hr KV Hv.out;rw[bT,hb] at this;exact this
 have Hcr:=ag cr;clear cr;rw[bT,hb];clear hb;unfold CB;go_in;go_wp2_with fail;refine aH (λv=>Below w w v/\ah v w #[r.f.X,(hi (r.f.Y)),(lo (r.f.Y)),r.f.M,r.t.X,(hi (r.t.Y)),(lo (r.t.Y)),r.t.M,fK] 236) ⟨ρE,ρB⟩ ?_;rintro v1 ⟨Px,OC⟩;have TH:=ae OC;refine Wq ?_
 repeat (go_big_quiet_step ((first
   | (go_at_call 211;(with_reducible exact bZ (gA p 65536 q _ hp ρa Hq.out)))
   | (go_at_call 218;(with_reducible exact bZ (Hcr.out _))))))
 refine wpQuiet_nil ?_;intro _ Ov;obtain⟨pq,LX⟩:=Ov;subst LX;have JL:=ZW v1 pq.d pq.os;generalize Sort.grow (redrawn v1 pq.d) pq.os=w1 at*;have A1:ah w1 w #[r.f.X,(hi (r.f.Y)),(lo (r.f.Y)),r.f.M,r.t.X,(hi (r.t.Y)),(lo (r.t.Y)),r.t.M,fK] 236:=ah.below OC JL OC.size;have g1:Below w w w1:=Px.trans (JL.mono Px.size);have J3:w.heap.size<=w1:=g1.size;clear JL Px OC TH;have Rr:=A1.r;go_wp2_with fail;refine(FD v r.t.X r.f.X T _ _ _ ρB ρa htX hfX HT.out).mono ?_;rintro e w9 ⟨rfl,rfl⟩;go_wp2;go_ret;exact⟨rfl,ρE⟩
theorem jd (r:RN)(p T:Int)(w:ϖ)(hr:r.ok)(hp:aq p)(hT:r.time p=T):
  CB 212 #[bT r,p] w T:=by
 unfold RN.time at hT;rcases hb:r.b with _|_
 ·rw[hb] at hT;simp only[Bool.false_eq_true,if_false] at hT;exact t6 r p _ _ T w hb hr hp rfl rfl hT
 ·rw[hb] at hT;simp only[if_true] at hT;exact wT r p _ _ T w hb hr hp rfl rfl hT
theorem LN.low_le {a b:LN} (ha:a.small)(hb:b.small)(hM:a.M=b.M)(hX:a.X<=b.X) {x:Int} (hx:x<=Ma):(LN.low a b).at x<=b.at x:=by
 have hbX:=hb.2;rcases Int.le_total b.X x with h|h
 ·rw[LN.low_at ha hb hM ρa h hx];exact Int.min_le_right _ _
 ·rw[LN.at_lo h];have h1:=LN.at_mono (LN.low_small ha hb) h hbX.2;rw[LN.low_at ha hb hM hX (ZJ _) hbX.2,LN.at_lo (ZJ b.X)] at h1;have:=Int.min_le_right (a.at b.X) b.Y;omega
theorem uJ {r s:RN} (hr:r.small)(hs:s.small)(h:r.alike s)(hf:r.b=true->r.f.X<=s.f.X)(ht:r.t.X<=s.t.X) {x:Int} (hx:x<=Ma):(RN.meet r s).at x<=s.at x:=by
 have e1:=LN.low_le hr.2 hs.2 h.2.2 ht hx;unfold RN.meet RN.at;rcases hb:r.b with _|_
 ·have JR:s.b=false:=by rw[<- h.1];exact hb
  simp only[JR,Bool.false_eq_true,if_false];exact e1
 ·have JR:s.b=true:=by rw[<- h.1];exact hb
  have e2:=LN.low_le hr.1 hs.1 (h.2.1 hb) (hf hb) hx;simp only[JR,if_true];split<;>split<;>omega
def mX (m d n now:Int):Int:=if kd m d n=4 then now+d else now
structure LK (m d n now:Int) (D E:RN):Prop where
 pair:ls m d n D E
 al:D.alike (RN.start m d n 0 0)
 bg:D.begun (mX m d n now)
 eb:kd m d n=4->E.t.X<=now
 gap:D.b=true->∀x,now<=x->x<=9223372036854775807->D.t.at x<=D.f.at x+(m - n)*d
theorem uH {m d n a b:Int} (h:a<=b):mX m d n a<=mX m d n b:=by unfold mX;split<;>omega
theorem LK.later {m d n now now':Int} {D E:RN} (h:LK m d n now D E)(hn:now<=now'):LK m d n now' D E:=
 ⟨h.pair,h.al,⟨λhb=>by have:=h.bg.1 hb;have:=uH (m:=m) (d:=d) (n:=n) hn;omega,by have:=h.bg.2;have:=uH (m:=m) (d:=d) (n:=n) hn;omega⟩,λhk=>by have:=h.eb hk;omega,λhb x h1 h2=>h.gap hb x ρa h2⟩
theorem iG (m d n x y:Int):(RN.start m d n x y).main.X=mX m d n x:=gU m d n x y
theorem ry {m d n x y:Int} (hb:(RN.start m d n x y).b=true):(RN.start m d n x y).f.X=mX m d n x:=by have:=iG m d n x y;unfold RN.main at this;rw[ZP hb] at this;exact this
theorem mw {m d n x y:Int} (hb:(RN.start m d n x y).b=true):kd m d n=3:=by
 unfold RN.start RN.ready at hb;split at hb
 ·simp at hb
 ·split at hb
  ·simp at hb
  ·split at hb
   ·assumption
   ·simp at hb
theorem rz (m d n x y:Int):(RN.start m d n x y).t.X=mX m d n x:=by
 unfold RN.start RN.ready mX;split
 ·rfl
 ·split
  ·rfl
  ·split<;>rfl
theorem rx {m d n x:Int} (hc:cV m d n)(v:WN)(hv:v.ok)(hx:x<=Mb):(v.start m d n).at x=v.p*65536+sv m d n (max (x - v.at_) 0):=by
 rw[iF hc v hv hx];unfold WN.asked WN.val;split
 ·rw[show max (x - v.at_) 0=x - v.at_ by omega]
 ·rw[show max (x - v.at_) 0=0 by omega];have:=hc.2.2.1.1;unfold sv;rw[ZP this];simp
theorem nO {m d n:Int} (hc:cV m d n)(v:WN)(hv:v.ok)(hb:(v.start m d n).b=true) {x:Int} (h1:v.at_<=x)(h2:x<=Mb):(v.start m d n).t.at x<=(v.start m d n).f.at x+(m - n)*d:=by have hk:=mw hb;have hs:=bj hc hv;have hk3:=xN hk;have ha:=iq hc hv (by omega:n<=m);unfold WN.start at*;rw[lp hk] at hs ⊢;rw[LN.at_from hs.1 h1 ρa,LN.at_from hs.2 h1 ρa];simp only[];rw[ha];have:=Int.mul_le_mul_of_nonneg_right (show n<=m by omega) (show 0<=x - v.at_ by omega);omega
theorem LK.one {m d n:Int} (hc:cV m d n)(v:WN)(hv:v.ok):LK m d n v.at_ (v.start m d n) (v.ready m d n):=by refine⟨ls.one hc v hv,bG ..,gT (Int.le_of_eq (iG ..)),λhk=>?_,λhb x h1 h2=>nO hc v hv hb h1 h2⟩;unfold WN.ready;rw[jE hk];exact ZJ _
theorem LK.meet {m d n:Int} {D E:RN} (hc:cV m d n)(v:WN)(hv:v.ok)(h:LK m d n v.at_ D E):LK m d n v.at_ (RN.meet D (v.start m d n)) (RN.meet E (v.ready m d n)):=by
 have UP:D.alike (v.start m d n):=ir h.al (i5 (bG ..));have sb:(v.start m d n).begun (mX m d n v.at_):=gT (by rw[iG];exact ZJ _);have hs:(v.start m d n).small:=bj hc hv;refine⟨h.pair.meet hc v hv,lU h.al (bG ..),tu UP h.bg sb,λhk=>?_,λhb x h1 h2=>?_⟩
 ·show (LN.low E.t (v.ready m d n).t).X<=v.at_;unfold LN.low WN.ready;rw[jE hk];split
  ·exact ZJ _
  ·exact h.eb hk
 ·have f':D.b=true:=hb;have JR:(v.start m d n).b=true:=by rw[<- UP.1];exact f'
  have hk:=mw JR;have hX:mX m d n v.at_=v.at_:=by unfold mX;rw[ZI ρa]
  have g1:=h.gap f' x h1 h2;have g2:=nO hc v hv JR h1 h2;show (LN.low D.t (v.start m d n).t).at x<=(if D.b then LN.low D.f (v.start m d n).f else LN.zero).at x+(m - n)*d;rw[ZP f',LN.low_at h.pair.1.2 hs.2 UP.2.2 (by have:=h.bg.2;omega) (by have:=sb.2;omega) ρa,LN.low_at h.pair.1.1 hs.1 (UP.2.1 f') (by have:=h.bg.1 f';omega) (by have:=sb.1 JR;omega) ρa];omega
theorem LK.new {m d n:Int} {D E:RN} (hc:cV m d n)(v:WN)(hv:v.ok)(h:LK m d n v.at_ D E) {x:Int} (hx:x<=Mb):(RN.meet D (v.start m d n)).at x<=v.p*65536+sv m d n (max (x - v.at_) 0):=by
 have UP:D.alike (v.start m d n):=ir h.al (i5 (bG ..));rw[<- rx hc v hv hx];refine uJ h.pair.1 (bj hc hv) UP (λhb=>?_) ?_ ρa
 ·have:=h.bg.1 hb;exact Int.le_trans this (Int.le_of_eq (show (v.start m d n).f.X=mX m d n v.at_ from ry (UP.1 ▸ hb)).symm)
 ·have:=h.bg.2;exact Int.le_trans this (Int.le_of_eq (rz m d n v.at_ (v.p*65536)).symm)
theorem LK.old {m d n:Int} {D E:RN} (hc:cV m d n)(v:WN)(hv:v.ok)(h:LK m d n v.at_ D E) {x:Int} (hx:x<=Mb):(RN.meet D (v.start m d n)).at x<=max (D.at x) (v.p*65536):=by
 have UP:D.alike (v.start m d n):=ir h.al (i5 (bG ..));have hs:(v.start m d n).small:=bj hc hv;rcases Int.le_total (mX m d n v.at_) x with g|g
 ·have b1:D.begun x:=⟨λhb=>by have:=h.bg.1 hb;omega,by have:=h.bg.2;omega⟩;have b2:(v.start m d n).begun x:=gT (by rw[iG];exact g);rw[RN.meet_at h.pair.1 hs UP b1 b2 ρa];omega
 ·have h1:=uJ h.pair.1 hs UP (λhb=>by
   have:=h.bg.1 hb;rw[show (v.start m d n).f.X=mX m d n v.at_ from ry (UP.1 ▸ hb)];exact this) (by have:=h.bg.2;rw[show (v.start m d n).t.X=mX m d n v.at_ from rz ..];exact this) (x:=x) ρa
  have h2:=RN.at_le_main (v.start m d n) x;have e:(v.start m d n).main.at x=v.p*65536:=by unfold WN.start;rw[LN.at_lo (by rw[iG];exact g),jI]
  omega
theorem LK.rise {m d n now:Int} {D E:RN} (hc:cV m d n)(h:LK m d n now D E)(h0:0<=now) {s x:Int} (h1:now<=s)(h2:s<=x)(h3:x<=Mb):D.at x<=E.at s+sv m d n (x - s):=by
 obtain⟨hk,hm,hd,hn⟩:=id hc;obtain⟨sD,sE,p3,p4⟩:=id h.pair;by_cases k4:kd m d n=4
 ·obtain⟨b1,b2,e1,e2⟩:=p4 k4;have hE:=h.eb k4;have e0:=FB k4;rw[RN.at_t b1,RN.at_t b2,LN.at_from sE.2 ρa ρa,e2];have sD2:=sD.2;rw[e1] at sD2 ⊢;rcases Int.le_total x (E.t.X+d) with g|g
  ·rw[LN.at_lo (by simp only[];exact g)];simp only[];have q1:=Int.mul_nonneg hn.1 (show 0<=s - E.t.X by omega);have q2:=(mA (m:=m) (d:=d) (n:=n) (t:=x - s) ρa hd.1 ρa ρa).1;omega
  ·rw[LN.at_from sD2 (by simp only[];exact g) ρa];simp only[];rw[e2];unfold sv;rw[e0.2.1];split
   ·have:=ZU (show x - (E.t.X+d)<=s - E.t.X by omega) hn.1;omega
   ·rw[show x - (E.t.X+d)=(s - E.t.X)+(x - s - d) by omega,Int.mul_add];omega
 ·have eDE:=p3 k4;subst eDE;have hX:mX m d n now=now:=by unfold mX;rw[ZI k4]
  have ht:=h.bg.2;rw[hX] at ht;have a1:=LN.at_from sD.2 (x:=s) ρa ρa;have a2:=LN.at_from sD.2 (x:=x) ρa ρa;have tM:D.t.M=(RN.start m d n 0 0).t.M:=h.al.2.2;rcases hb:D.b with _|_
  ·rw[RN.at_t hb,RN.at_t hb,a1,a2];have JR:(RN.start m d n 0 0).b=false:=by rw[<- h.al.1];exact hb
   have e:D.t.M*(x - D.t.X)=D.t.M*(s - D.t.X)+D.t.M*(x - s):=by rw[<- Int.mul_add];congr 1;omega
   have hM:D.t.M*(x - s)<=sv m d n (x - s):=by
    rw[tM];by_cases k2:kd m d n=2
    ·have:=FA k2;rw[BS k2];simp only[];unfold sv;rw[this.1,this.2];split
     ·exact ZJ _
     ·rw[show x - s - 0=x - s by omega];omega
    ·by_cases k3:kd m d n=3
     ·rw[lp k3] at JR;simp at JR
     ·have:(RN.start m d n 0 0).t.M=0:=by
       unfold RN.start RN.ready;rw[ZI k4,ZI ρa,ZI k3]
      rw[this];have:=(mA (m:=m) (d:=d) (n:=n) (t:=x - s) ρa hd.1 ρa ρa).1;omega
   omega
  ·have JR:(RN.start m d n 0 0).b=true:=by rw[<- h.al.1];exact hb
   have k3:=mw JR;have kk:=xN k3;have hf:=h.bg.1 hb;rw[hX] at hf;have f1:=LN.at_from sD.1 (x:=s) ρa ρa;have f2:=LN.at_from sD.1 (x:=x) ρa ρa;have fM:D.f.M=m:=by rw[h.al.2.1 hb,lp k3]
   have tM':D.t.M=n:=by rw[tM,lp k3]
   have g:=h.gap hb s h1 ρa;have ef:D.f.at x=D.f.at s+m*(x - s):=by rw[f1,f2,fM,Int.add_assoc,<- Int.mul_add];congr 2;omega
   have et:D.t.at x=D.t.at s+n*(x - s):=by rw[a1,a2,tM',Int.add_assoc,<- Int.mul_add];congr 2;omega
   have q:n*(x - s)<=m*(x - s):=Int.mul_le_mul_of_nonneg_right ρa ρa;have hsv:(x - s<=d->sv m d n (x - s)=m*(x - s))/\(d<=x - s->sv m d n (x - s)=(m - n)*d+n*(x - s)):=by
    constructor
    ·intro h;unfold sv;rw[ZP h]
    ·intro h;rw[ph,show min (x - s) d=d by omega];omega
   have q2:d<=x - s->n*(x - s)<=sv m d n (x - s):=λh=>by rw[hsv.2 h];have:=(lh hc (by omega:n<=m)).1;omega
   unfold RN.at;simp only[hb,if_true];rcases Int.le_total (x - s) d with c|c
   ·rw[hsv.1 c];split<;>split<;>omega
   ·have:=hsv.2 c;have:=q2 c;split<;>split<;>omega
end Go.Proofs.YtfdlemkplejdnaaGreat
