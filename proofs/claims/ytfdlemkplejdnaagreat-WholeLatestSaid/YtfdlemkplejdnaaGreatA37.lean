/- WholeLatest, part 37. Conditions: none. -/
import Derived.Test.YtfdlemkplejdnaaGreatA35
namespace Go.Proofs.YtfdlemkplejdnaaGreat
open Go.RowKit Go.Sort
open Value renaming int->ι,pointer->ψ,slice->ζ,tuple->χ,agg->φ,map->μ,bool->β
open IntKind renaming u64->υ,i64->ε,u16->ω
open Ending renaming returned->ϰ
open Go.Proofs.Tryz renaming prog->Ψ,underlying3->Θ,underlying147->Δ,underlying152->Γ,underlying202->Φ,underlying39->Ξ,underlying207->Ω
open Go renaming World->ϖ,Value->ϗ
set_option linter.unusedVariables false
set_option linter.unusedSimpArgs false
set_option maxHeartbeats 8000000
set_option maxRecDepth 100000
def fy (L:List CD):List Int:=(L.filter SS.real).map CD.id
def qx (L:List CD)(i:Int):Int × Int × Int:=match fc L i with
 | some c=>(c.r0,c.r1,c.r2)
 | none=>(0,0,0)
theorem jx {L:List CD} {i:Int} {c:CD} (h:fc L i=some c):qx L i=(c.r0,c.r1,c.r2):=by unfold qx;rw[h]
theorem dH {L:List CD} (h:nh L) {i:Int}:i ∈ fy L↔∃c,fc L i=some c/\SS.real c=true:=by
 unfold fy;rw[List.mem_map];constructor
 ·rintro⟨c,hc,rfl⟩;obtain⟨h1,h2⟩:=qE.1 hc;exact⟨c,h.ids c h1,h2⟩
 ·rintro⟨c,hc,hr⟩;obtain⟨h1,h2⟩:=fH hc;exact⟨c,qE.2 ⟨h1,hr⟩,h2⟩
theorem kT {L:List CD} (h:(L.map CD.id).Nodup):(fy L).Nodup:=h.sublist (List.filter_sublist.map _)
theorem nU (m:TM)(d:Int):∀R:List Int,∃v,(v=d\/∃j q,m j=some q/\v=q.1)/\v<=d/\∀j ∈ R,∀q,m j=some q->v<=q.1
 | []=>⟨d,.inl rfl,qJ _,λj h=>by simp at h⟩
 | i::R=>by
  obtain⟨v,h1,h2,h3⟩:=nU m d R;cases hm:m i with
  | none=>
   refine⟨v,h1,h2,λj hj q hq=>?_⟩;rcases qC.1 hj with e|e
   ·rw[e,hm] at hq;cases hq
   ·exact h3 j e q hq
  | some q0=>
   by_cases g:v<=q0.1
   ·refine⟨v,h1,h2,λj hj q hq=>?_⟩;rcases qC.1 hj with e|e
    ·rw[e,hm] at hq;cases hq;exact g
    ·exact h3 j e q hq
   ·refine⟨q0.1,.inr ⟨i,q0,hm,rfl⟩,by omega,λj hj q hq=>?_⟩;rcases qC.1 hj with e|e
    ·rw[e,hm] at hq;cases hq;exact qJ _
    ·have:=h3 j e q hq;omega
theorem SS.Inv.exE {s:SS} (h:s.Inv):∃v,ff s.lv Mc v:=by obtain⟨v,h1,h2,h3⟩:=nU s.lv Mc s.ids;refine⟨v,h1,h2,λj q hq=>h3 j ?_ q hq⟩;obtain⟨c,hc,_⟩:=h.lvn hq;exact(gO h.lok).2 ⟨c,hc⟩
structure lQ (T:Int) (L:List CD):Prop where
 adm:Io T (fy L) (qx L)
 rl:∀i c,fc L i=some c->SS.real c=true->c.lf=true
abbrev YS.DSx (y:YS)(x:Int):Prop:=DS y.s.T y.s.Lm (fy y.s.L) (qx y.s.L) y.clk x (λi=>(y.s.e i).du) (λi=>(y.s.e i).q) y.ev
structure YS.DU (y:YS) (x:Int):Prop where
 ds:y.DSx x
 dp:∀i ∈ fy y.s.L,(y.s.e i).du.p<=(y.s.e i).tot
section
variable {op:Int} {y z:YS} {x:Int}
theorem YS.Ok0.tl (h:y.Ok0):1<=y.s.T*y.s.Lm/\y.s.T*y.s.Lm<=1073741824:=vq h.tt h.num.lm
theorem YS.Ok0.early (h:y.Ok0)(K:lQ y.s.T y.s.L) {t:Int} (ht:t<y.due):∀i ∈ fy y.s.L,(y.s.e i).q≠[]->t<(y.s.e i).du.e:=by intro i hi hq;obtain⟨c,hc,hr⟩:=(dH h.inv.lok).1 hi;exact h.inv.early (now:=t) h.inv.exE ht i c hc (K.rl i c hc hr) hr hq
theorem fW.du (hp:fW op y z)(h:y.Ok0)(K:lQ y.s.T y.s.L)(D:y.DU (max y.til y.clk)):z.DU z.til:=by
 have h1:=h.clk;cases hp with
 | busy hb=>rw[show max y.til y.clk=y.til by omega] at D;exact D
 | idle hb K8=>exact⟨D.ds.less (by show y.til<=_;omega),D.dp⟩
 | @pick i b c xs p r hb K8 hc hq hu=>
  obtain⟨P,hl,T,I,N,hp,ht⟩:=h.pick K8 hc hq hu;have WF:=h.inv.ec i c hc;have UY:=h.tl;have RP:=h.num.lm;rw[show max y.til y.clk=y.clk by omega] at D;obtain⟨D,dp⟩:=D;have RR:=jx hc;have htot:(y.s.e i).tot+p.len<=1099511627776:=by have h1:=(N.tot i c (by rw[T.L];exact hc)).2;have h2:=N.bys_nonneg I;have h3:=N.acc;rw[T.tot i,qP P.hd] at h1;omega
  refine⟨?_,λj hj=>?_⟩
  ·show DS _ _ _ _ y.clk (y.clk+y.s.T*p.len) _ _ (y.ev++[_]);rw[T.T,T.Lm,T.L];cases b with
   | true=>
    obtain⟨g1,⟨d,hd,_,hr,_⟩,g3⟩:=h.told.1.byReal h.clk.2.2 K8;have hd:fc y.s.L i=some d:=hd;rw[hc] at hd;cases hd;have hi:i ∈ fy y.s.L:=(dH h.inv.lok).2 ⟨c,hc,hr⟩;have Y':=dp i hi;refine D.real (k:=i) (p:=p) (r:=r) (kT h.num.nd) K.adm h.tt.1 RP UY.2 h.clk.2 ⟨rfl,rfl,rfl,rfl,rfl⟩ hi hq (by show (y.s.e i).du.p+p.len<=_;omega) (λj hj hqj hej=>?_) (λj=>?_) (λj=>T.q j)
    ·obtain⟨d,hd,UO⟩:=(dH h.inv.lok).1 hj;exact g3 j d hd (K.rl j d hd UO) UO hqj hej
    ·simp only[T.du j,WF,hr,and_true,if_true]
   | false=>
    have g3:=h.told.1.byShare h.clk.2.2 K8;refine D.share (k:=i) (p:=p) (r:=r) h.tt.1 RP h.clk.2 ⟨rfl,rfl,rfl,rfl,rfl⟩ hq hp.2 (λj hj hqj=>?_) (λj hj=>?_) (λj=>T.q j)
    ·obtain⟨d,hd,UO⟩:=(dH h.inv.lok).1 hj;exact g3 j d hd (K.rl j d hd UO) UO hqj
    ·obtain⟨d,hd,UO⟩:=(dH h.inv.lok).1 hj;simp only[T.du j];by_cases e:j=i
     ·subst e;rw[hc] at hd;cases hd;simp[WF,UO]
     ·simp[e]
  ·have hjr:j ∈ fy y.s.L:=by have:=hj;rw[T.L] at this;exact this
   have QR:=dp j hjr;have hrg:=(D.lfs j hjr).2.rng;clear hj;show ((y.s.take y.clk i b xs).e j).du.p<=((y.s.take y.clk i b xs).e j).tot;rw[T.du j,T.tot j];by_cases e:j=i
   ·subst e;rw[qP P.hd];have hql:=gN (q:=(y.s.e j).q) (N:=y.s.Lm) (λz hz=>D.qs hjr z hz) ρa;have Nv:=gN (q:=r) (N:=y.s.Lm) (λz hz=>D.qs hjr z (by simp only[hq];simp[hz])) ρa;split
    ·cases b with
     | true=>have:=(vN (l:=(y.s.e j).du) (s:=p.len) (h:=aw r) ρa ρa ρa).2.2.2.1;simp only[if_true];rw[this];omega
     | false=>have:=(gg (l:=(y.s.e j).du) (h:=aw r) hrg ρa).2.2.2.1;simp only[Bool.false_eq_true,if_false];rw[this];omega
    ·omega
   ·rw[qI (λg=>e g.1)];split<;>omega
theorem YS.Ok.now (h:y.Ok)(K:lQ y.s.T y.s.L)(D:y.DU y.til):y.DU (max y.til y.clk):=by
 have h1:=h.clk;have UY:=h.tl;by_cases g:y.clk<y.til
 ·rw[show max y.til y.clk=y.til by omega];exact D
 ·refine⟨D.ds.reset y.clk ⟨h1.2.1,qJ _⟩ ⟨qJ _,h1.2.2⟩ (λi hi hq=>h.early K (h.idle ρa) i hi hq) ρa,D.dp⟩
theorem YS.Ok.next (h:y.Ok)(K:lQ y.s.T y.s.L)(D:y.DU y.til)(hn:y.next<=4611686018427387904):({y with clk:=y.next}:YS).DU (max y.til y.next):=by
 have h1:=h.clk;have UY:=h.tl;have hx:y.clk<=y.next/\y.til<=y.next:=by unfold YS.next;omega
 by_cases g:y.til=y.next
 ·rw[show max y.til y.next=y.til by omega];exact⟨D.ds.later hx.1,D.dp⟩
 ·have hd:y.next=y.due/\y.clk<y.next:=by
   have:=h.idle;unfold YS.next at g hx ⊢;omega
  rw[show max y.til y.next=y.next by omega];exact⟨D.ds.reset (y.next - 1) ρa ⟨by show y.next - 1<=y.next;omega,hn⟩ (λi hi hq=>h.early K ρa i hi hq) (by show y.next<=y.next - 1+y.s.T*y.s.Lm;omega),D.dp⟩
theorem cf.du {stop:Int} (hr:cf op stop y z)(h:y.Ok)(hs:stop<=4611686018427387904)(h0:y.clk<=stop)(K:lQ y.s.T y.s.L)(D:y.DU y.til):z.DU z.til:=by
 induction hr with
 | @done y hn=>exact⟨D.ds.later h0,D.dp⟩
 | @next y z t hn hp _ ih=>have ha:=h.at_next hs hn;obtain⟨g1,g2,g3,g4,g5⟩:=hp.ok ha;refine ih g1 (by rw[g2];exact hn) ?_ (hp.du ha K (h.next K D ρa));rw[g3,g4];exact K
theorem lD.du (hs:lD op y z)(h:y.Ok)(K:lQ y.s.T y.s.L)(D:y.DU y.til):z.DU z.til:=by
 have h1:=h.clk;cases hs with
 | nothing=>exact D
 | refused hn e KI=>
  rcases bY h.inv.ec hn e with ⟨_,rfl|⟨rfl,_⟩⟩|⟨g,_⟩
  ·exact D
  ·exact⟨D.ds,D.dp⟩
  ·exact ax g KI
 | @packet i p xs s' z hP e hp=>
  have I:=h.inv.put hP e;have hn:xs.Nodup\/fc y.s.L i=none:=by
   cases hc:fc y.s.L i with
   | none=>exact .inr rfl
   | some c=>exact ηO
  rcases hn with hn|hn
  ·rcases bY h.inv.ec hn e with ⟨g,_⟩|⟨_,c,F⟩
   ·exact ax rfl g
   ·have P:=hP c F.cls.1;refine δd ?_;intro N O;have K':lQ s'.T s'.L:=by rw[F.T,F.L];exact K
    refine hp.du O K' ?_;obtain⟨Dn,dp⟩:=h.now K D;have hc:=F.cls.1;have RR:=jx hc;refine⟨?_,λj hj=>?_⟩
    ·show DS _ _ _ _ y.clk (max y.til y.clk) _ _ (y.ev++[_]);rw[F.T,F.Lm,F.L];by_cases hw:i ∈ fy y.s.L/\(y.s.e i).q=[]
     ·obtain⟨hi,hqi⟩:=hw;obtain⟨d,hd,UO⟩:=(dH h.inv.lok).1 hi;rw[hc] at hd;cases hd;refine Dn.wake (k:=i) ⟨h1.2.1,h1.2.2⟩ h.num.lm.2 ⟨rfl,rfl,rfl⟩ F.len hi hqi (λj=>?_) (λj=>?_)
      ·simp only[F.du j,hqi,UO,and_true,RR]
      ·simp only[F.q j,hqi,List.nil_append]
     ·refine Dn.put (k:=i) h1.2.1 ⟨rfl,rfl,rfl⟩ F.len (λj hj=>?_) (λj hj=>F.q j) (λhi g=>hw ⟨hi,g⟩);simp only[F.du j];rw[qI];rintro⟨rfl,g2,g3⟩;exact hw ⟨hj,g2⟩
    ·have hj:j ∈ fy y.s.L:=by have:=hj;rw[show ({y with s:=s',ev:=y.ev++[⟨op,true,false,y.clk,0,i,p⟩]}:YS).s=s' from rfl,F.L] at this;exact this
     have QR:=dp j hj;have hrg:=(Dn.lfs j hj).2.rng;show (s'.e j).du.p<=(s'.e j).tot;rw[F.tot j,F.du j];split
     ·rename_i g;obtain⟨rfl,_,_⟩:=g;have hw:((y.s.e j).du.woke c.r0 c.r1 c.r2 y.clk).p=(y.s.e j).du.p:=rfl;have Mk:=F.len;have hlm:=h.num.lm;have:=(gg (l:=(y.s.e j).du.woke c.r0 c.r1 c.r2 y.clk) (h:=p.len) (by rw[hw];exact hrg) ρa).2.2.2.1;rw[this,hw];exact QR
     ·exact QR
  ·exact ηb
 | adv h0 h1 hr=>exact hr.du h h1 h0 K D
theorem jr.du {y0:YS} {l:List OI} (hr:jr y0 l y)(h0:y0.Ok)(K:lQ y0.s.T y0.s.L)(D:y0.DU y0.til):y.DU y.til:=by
 induction hr with
 | nil=>exact D
 | snoc hr _ hs _ ih=>obtain⟨g1,g2,g3,g4⟩:=hr.ok h0;exact hs.du g1 (by rw[g2,g3];exact K) ih
theorem YS.DU.wait (D:y.DU y.til)(h:y.Ok)(K:lQ y.s.T y.s.L) {i:Int} (hi:i ∈ fy y.s.L) {p:PK} {r:List PK} (hq:(y.s.e i).q=p::r):xJ (qx y.s.L i).1 (qx y.s.L i).2.1 (qx y.s.L i).2.2 (y.s.T*y.s.Lm) i y.ev (y.clk+1):=by
 have h1:=h.clk;have UY:=h.tl;obtain⟨hc,F⟩:=D.ds.lfs i hi;have G:=D.ds.gh i hi;have hp:=D.ds.qs hi p (by simp only[hq];simp);simp only[hq] at F G;have hl:aw (p::r)=p.len:=rfl;refine G.good hc F hp.1 (λz hz hi=>by have:=D.ds.len z hz hi;omega) ?_;have t0:0<=(y.s.e i).du.t:=by obtain⟨g1,_,g3⟩:=F.hs ρa;rw[g3];exact(RN.reach_rng (RN.small_ok (F.lk g1).pair.1) _).1
 by_cases g:y.clk<y.til
 ·by_cases ht:(y.s.e i).du.t<=Mb
  ·have:=IB.done (k:=i) (h:=λi=>aw (y.s.e i).q) (by have:=h.tt;omega) K.adm (kT h.num.nd) hi D.ds.lfs (by simp only[hq,hl];omega) rfl (D.ds.ib _ ⟨t0,ht⟩);simp only[hq,hl] at this;have h2:=vq h.tt (l:=p.len) ⟨hp.1,by have:=h.num.lm;omega⟩;omega
  ·omega
 ·have h2:=h.early K (h.idle ρa) i hi (by rw[hq];simp);have h3:=F.et hc ρa;omega
end
theorem Be (T Lm:Int)(L:List CD):(f7 T Lm L).bys=0:=kK λ_ _=>rfl
theorem f7.inv {T Lm:Int} {L:List CD} (h:nh L):(f7 T Lm L).Inv:=by
 refine⟨h,λi c hc=>?_,λi=>?_,λp j=>?_,λj p=>?_,λj=>?_⟩
 ·show (dP L i)=c;unfold dP;rw[show fc L i=some c from hc];rfl
 ·exact⟨λg=>Bool.noConfusion (show false=true from g),λ⟨_,_,_,_,g⟩=>ax rfl g⟩
 ·exact⟨λg=>ax g (by show j ∉ ([]:List Int);simp),λ⟨_,_,_,_,g⟩=>g.elim (λg=>Bool.noConfusion (show false=true from g)) (λg=>ax rfl g)⟩
 ·show none=if j ∈ ([]:List Int) then _ else none;rw[qI ρp]
 ·unfold SS.okl;show none=match fc L j with|some c=>if _/\_/\([]:List PK)≠[] then _ else none|none=>none;cases fc L j with
  | none=>rfl
  | some c=>exact(qI (λg=>g.2.2 rfl)).symm
def lc (L:List CD):Prop:=∀c ∈ L,dk c.r0 c.r1 c.r2/\dk c.l0 c.l1 c.l2/\Go.Proofs.YtfdlemkplejdnaaGreat.kd c.l0 c.l1 c.l2≠4
theorem f7.num {T Lm:Int} {L:List CD} (nd:(L.map CD.id).Nodup)(cin:lc L)(lm:1<=Lm/\Lm<=16384):(f7 T Lm L).Num:=by
 refine⟨nd,cin,lm,⟨qJ _,by show (0:Int)<=_;omega⟩,⟨qJ _,by show (0:Int)<=_;omega⟩,λi c _=>⟨qJ _,?_⟩,λi c _ p hp=>?_,λi c _=>CH.low_zero⟩
 ·rw[Be];exact qJ _
 ·exact ax hp (by show p ∉ ([]:List PK);simp)
theorem f7.ok {T Lm:Int} {L:List CD} (h:nh L)(nd:(L.map CD.id).Nodup)(cin:lc L)(hT:1<=T/\T<=65536)(lm:1<=Lm/\Lm<=16384):YS.Ok ⟨f7 T Lm L,0,0,[]⟩:=by refine⟨⟨f7.inv h,f7.num nd cin lm,⟨qJ _,qJ _,by show (0:Int)<=_;omega⟩,hT,by show (0:Int)<=0/\(0:Int)<=_;omega⟩,λ_=>?_⟩;show (0:Int)<min (dw nk) (fitT nk);have h1:(0:Int)<dw nk:=ry ρa (λj q g=>by cases g);have h2:(0:Int)<fitT nk:=uZ ρa (λj q g=>by cases g);omega
theorem f7.du {T Lm:Int} {L:List CD} (h:nh L)(nd:(L.map CD.id).Nodup)(cin:lc L)(hT:1<=T/\T<=65536)(lm:1<=Lm/\Lm<=16384):YS.DU ⟨f7 T Lm L,0,0,[]⟩ 0:=by
 have key:FE 0 (fy L) (qx L) (λ_=>Iq) (λ_=>0):=λi hi=>by obtain⟨c,hc,_⟩:=(dH h).1 hi;rw[jx hc];refine⟨(cin c (fH hc).1).1,⟨qJ _,by show (0:Int)<=_;omega⟩,⟨by show (0:Int)<=0;omega,by show (0:Int)<=_;omega⟩,λg=>Bool.noConfusion (show false=true from g),λg=>?_⟩;have g:(0:Int)<0:=g;omega
 have UY:=vq hT lm;refine⟨⟨λi hi=>key i hi,λi hi=>⟨rfl,λg=>Bool.noConfusion (show false=true from g)⟩,λdl hd=>?_,λi hi a v b hb=>?_,λe he=>?_,List.Pairwise.nil,λe he=>?_⟩,λi hi=>qJ _⟩
 rotate_left
 ·have hb:([]:List EV)=a++v::b:=hb;cases a<;>cases hb
 ·have he:e ∈ ([]:List EV):=he;cases he
 ·have he:e ∈ ([]:List EV):=he;cases he
 exact IB.reset 0 key ⟨qJ _,qJ _⟩ ⟨qJ _,by show (0:Int)<=_;omega⟩ hd.2 (λi hi g=>by have g:(0:Int)<0:=g;omega) (by show (0:Int)<=0+T*Lm;omega)
theorem nh.nil:nh []:=by
 refine⟨rfl,λi c h=>?_,⟨λ_=>0,λi c h=>?_⟩,λc h=>?_,by simp,λc h=>?_⟩
 ·cases h
 ·cases h
 ·cases h
 ·cases h
theorem lc.nil:lc []:=by intro c h;cases h
structure gI (n:Nat) (L:List CD):Prop where
 len:L.length<=n
 nd:(L.map CD.id).Nodup
 wc:∀c ∈ L,WC c=0/\CN c
 par:∀i c,fc L i=some c->c.par=0\/∃d,fc L c.par=some d/\d.lf=false/\(eZ c=true->eZ d=true)
 rk:∃rk:Int->Nat,∀i c,fc L i=some c->rk i<=n/\(c.par≠0->rk c.par<rk i)
theorem gI.nil:gI 0 []:=by
 refine⟨by simp,by simp,λc h=>?_,λi c h=>?_,λ_=>0,λi c h=>?_⟩
 ·cases h
 ·cases h
 ·cases h
theorem WC.facts {c:CD} (h:WC c=0):(1<=c.id/\c.id<=65536)/\(0<=c.par/\c.par<=65536)/\c.id≠c.par/\kd c.r0 c.r1 c.r2≠0/\kd c.l0 c.l1 c.l2≠0/\kd c.u0 c.u1 c.u2≠0/\kd c.l0 c.l1 c.l2≠4/\kd c.u0 c.u1 c.u2≠4/\(c.lf=true->(1<=c.pk/\c.pk<=64)/\(1<=c.by_/\c.by_<=1048576))/\(c.lf=false->kd c.r0 c.r1 c.r2=1):=by
 unfold WC wr at h;split at h
 ·omega
 ·split at h
  ·omega
  ·split at h
   ·omega
   ·refine⟨by omega,by omega,by omega,by omega,by omega,by omega,by omega,by omega,λhl=>?_,λhl=>?_⟩
    ·rw[qP hl] at h;split at h
     ·omega
     ·omega
    ·rw[qI (by rw[hl];simp)] at h;split at h
     ·omega
     ·omega
theorem mJ {L:List CD} {i:Int} {c:CD} (h:fc L i=some c)(hi:i≠0):kV L i=eZ c:=by unfold kV;rw[h];simp[hi,eZ]
section
variable {n:Nat} {L M:List CD} {k:Int} {x:CD}
theorem gI.nz (h:gI n L):fc L 0=none:=by
 cases hc:fc L 0 with
 | none=>rfl
 | some c=>obtain⟨h1,h2⟩:=fH hc;have:=(WC.facts (h.wc c h1).1).1;omega
theorem gI.step (h:gI n L)(hx:CN x)(s:lR k x L M):gI (n+1) M:=by
 obtain⟨rk,hr⟩:=h.rk;rcases s with ⟨rfl,⟨hw,h0,h64,hp,hs⟩,rfl⟩|⟨rfl,⟨d0,h0⟩,hp,rfl⟩|⟨rfl,⟨hw,⟨d0,h0,hp,hl⟩,hs,K6⟩,rfl⟩
 ·have hf:∀i,fc (bU x false L) i=if i=x.id then some x else fc L i:=λi=>iW x i L false;have F:=WC.facts hw;have hm:∀c ∈ bU x false L,c=x\/c ∈ L:=λc hc=>ηG
  refine⟨?_,gU x false h.nd,λc hc=>?_,λi c hc=>?_,λi=>if i=x.id then n+1 else rk i,λi c hc=>?_⟩
  ·have:=gB x L false;have:=h.len;simp at*;omega
  ·rcases hm c hc with e|e
   ·rw[e];exact⟨hw,hx⟩
   ·exact h.wc c e
  ·rw[hf] at hc;split at hc
   ·cases hc
    rcases hp with e|⟨d,hd,MI⟩
    ·exact .inl e
    ·refine .inr ⟨d,by rw[hf,qI τ2];exact hd,MI,λg=>?_⟩;have hpz:x.par≠0:=λe=>by rw[e,h.nz] at hd;cases hd
     rw[<- mJ hd hpz];exact hs g
   ·rcases h.par i c hc with e|⟨d,hd,MI,Ud⟩
    ·exact .inl e
    ·exact .inr ⟨d,by rw[hf,qI τ2];exact hd,MI,Ud⟩
  ·rw[hf] at hc;simp only[];by_cases e:i=x.id
   ·rw[qP e] at hc;cases hc;rw[qP e];refine⟨qR _,λhz=>?_⟩;rcases hp with g|⟨d,hd,MI⟩
    ·exact ax g hz
    ·rw[qI τ2];have:=(hr _ _ hd).1;omega
   ·rw[qI e] at hc;rw[qI e];have:=hr i c hc;refine⟨by omega,λhz=>?_⟩;rcases h.par i c hc with g|⟨d,hd,_⟩
    ·exact ax g hz
    ·rw[qI τ2];exact this.2 hz
 ·have hf:∀i,fc (L.filter (λc:CD=>c.id !=x.id)) i=if i=x.id then none else fc L i:=λi=>iV ρp i L;have Od:∀i c,fc (L.filter (λc:CD=>c.id !=x.id)) i=some c->fc L i=some c:=λi c hc=>by
   rw[hf] at hc;split at hc
   ·cases hc
   ·exact hc
  refine⟨qK (qH _ _) (by have:=h.len;omega),jA _ h.nd,λc hc=>h.wc c (qE.1 hc).1,λi c hc=>?_,rk,λi c hc=>?_⟩
  ·have hc:=Od i c hc;rcases h.par i c hc with e|⟨d,hd,MI,Ud⟩
   ·exact .inl e
   ·exact .inr ⟨d,by rw[hf,qI (hp c (fH hc).1)];exact hd,MI,Ud⟩
  ·have:=hr i c (Od i c hc);exact⟨by omega,this.2⟩
 ·have hf:∀i,fc (bU x false L) i=if i=x.id then some x else fc L i:=λi=>iW x i L false;have F:=WC.facts hw;have hm:∀c ∈ bU x false L,c=x\/c ∈ L:=λc hc=>ηG
  have hd0:=h.par _ _ h0;refine⟨?_,gU x false h.nd,λc hc=>?_,λi c hc=>?_,rk,λi c hc=>?_⟩
  ·have:=gB x L false;have:=h.len;simp at*;omega
  ·rcases hm c hc with e|e
   ·rw[e];exact⟨hw,hx⟩
   ·exact h.wc c e
  ·rw[hf] at hc;split at hc
   ·cases hc
    rcases hd0 with e|⟨d,hd,MI,_⟩
    ·exact .inl (hp ▸ e)
    ·rw[hp] at hd;refine .inr ⟨d,by rw[hf,qI (λe=>F.2.2.1 e.symm)];exact hd,MI,λg=>?_⟩;have hpz:x.par≠0:=λe=>by rw[e,h.nz] at hd;cases hd
     rw[<- mJ hd hpz];exact hs g
   ·rcases h.par i c hc with e|⟨d,hd,MI,Ud⟩
    ·exact .inl e
    ·by_cases e:c.par=x.id
     ·rw[e,h0] at hd;cases hd;refine .inr ⟨x,by rw[hf,qP e],by rw[<- hl];exact MI,λg=>?_⟩;cases UX:eZ x with
      | true=>rfl
      | false=>obtain⟨hcL,P'⟩:=fH hc;have h1:=K6 UX c hcL e;have h2:=(WC.facts (h.wc c hcL).1).1;rw[mJ (eU h.nd c hcL) ρa,g] at h1;exact h1.symm
     ·exact .inr ⟨d,by rw[hf,qI e];exact hd,MI,Ud⟩
  ·rw[hf] at hc;split at hc
   ·rename_i e;cases hc;have:=hr _ _ h0;rw[e];exact⟨by omega,λhz=>by rw[<- hp];exact this.2 (by rw[hp];exact hz)⟩
   ·have:=hr i c hc;exact⟨by omega,this.2⟩
theorem gI.lok (h:gI n L)(hn:n<=64):nh L:=by obtain⟨rk,hr⟩:=h.rk;exact⟨h.nz,h.par,⟨rk,λi c hc=>⟨by have:=(hr i c hc).1;omega,(hr i c hc).2⟩⟩,λc hc=>by have F:=WC.facts (h.wc c hc).1;exact⟨F.2.2.2.1,⟨F.2.2.2.2.1,F.2.2.2.2.2.2.1⟩,F.2.2.2.2.2.1⟩,by have:=h.len;omega,eU h.nd⟩
structure gJ (L2 L:List CD):Prop where
 fc:∀i,fc L2 i=fc L i
 nd:(L2.map CD.id).Nodup
theorem gJ.nil:gJ [] []:=⟨λ_=>rfl,by simp⟩
theorem gJ.step {L2:List CD} (h:gJ L2 L)(s:lR k x L M):gJ (eI k x L2) M:=by
 rcases s with ⟨rfl,_,rfl⟩|⟨rfl,_,_,rfl⟩|⟨rfl,_,rfl⟩
 ·exact ηJ
 ·exact⟨λi=>by unfold eI;rw[qP rfl,BB,iV (id:=x.id) ρp,h.fc],by unfold eI;rw[qP rfl];exact jA _ h.nd⟩
 ·exact ηJ
theorem gJ.up {L2:List CD} (h:gJ L2 L)(R:gI n L)(id:Int):∃xs,dB L2 id xs/\xs.length<=n+1:=by
 obtain⟨rk,hr⟩:=R.rk;cases hc:Go.Proofs.YtfdlemkplejdnaaGreat.fc L2 id with
 | none=>exact⟨[],hc,by simp⟩
 | some c=>
  refine oN (rk:=rk) (λj d hd=>?_) n id ?_
  ·rw[h.fc] at hd;by_cases e:d.par=0
   ·left;rw[e,h.fc];exact R.nz
   ·right;exact(hr j d hd).2 e
  ·rw[h.fc] at hc;exact(hr id c hc).1
end
theorem gJ.steps:∀{ch:List (Int × CD)} {n:Nat} {L L2 M:List CD},gJ L2 L->gI n L->n+ch.length<=64->(∀c ∈ ch,CN c.2)->dA ch L M->xH ch L2/\gJ (ch.foldl (λL c=>eI c.1 c.2 L) L2) M/\gI (n+ch.length) M
 | [],n,L,L2,M,h,R,hn,hc,s=>by cases s;exact⟨trivial,h,R⟩
 | c::r,n,L,L2,M,h,R,hn,hc,⟨K,s1,s2⟩=>by have hn:n+(r.length+1)<=64:=hn;obtain⟨g1,g2,g3⟩:=(h.step s1).steps (R.step (hc c ρp) s1) ρa κl s2;obtain⟨xs,u1,u2⟩:=h.up R c.2.par;refine⟨⟨λ_=>⟨xs,u1,by omega⟩,g1⟩,g2,?_⟩;show gI (n+(r.length+1)) M;rw[show n+(r.length+1)=n+1+r.length by omega];exact g3
theorem gJ.lok {n:Nat} {L L2:List CD} (h:gJ L2 L)(R:gI n L)(hn:n<=64)(hl:L2.length<=64):nh L2/\lc L2/\(∀c ∈ L2,WC c=0/\CN c):=by
 have K:=R.lok hn;have hm:∀c ∈ L2,c ∈ L:=λc hc=>by have:=eU h.nd c hc;rw[h.fc] at this;exact(fH this).1
 obtain⟨rk,hr⟩:=K.rk;refine⟨⟨by rw[h.fc];exact K.nz,λi c hc=>?_,⟨rk,λi c hc=>?_⟩,λc hc=>K.cls c (hm c hc),hl,eU h.nd⟩,λc hc=>?_,λc hc=>R.wc c (hm c hc)⟩
 ·rw[h.fc] at hc;rw[h.fc];exact K.par i c hc
 ·rw[h.fc] at hc;exact hr i c hc
 ·obtain⟨hw,hn⟩:=R.wc c (hm c hc);have F:=WC.facts hw;exact⟨dk.of hn.1.1 hn.1.2.1 hn.1.2.2 F.2.2.2.1,dk.of hn.2.1.1 hn.2.1.2.1 hn.2.1.2.2 F.2.2.2.2.1,F.2.2.2.2.2.2.1⟩
def SS.Z (s:SS):Prop:=∀j,(s.e j).cp=CH.zero/\Go.Proofs.YtfdlemkplejdnaaGreat.kd (s.e j).c.u0 (s.e j).c.u1 (s.e j).c.u2<2
section
variable {s t:SS}
theorem SS.Z.like (h:s.Z)(e:∀j,(t.e j).cp=(s.e j).cp/\(t.e j).c=(s.e j).c):t.Z:=λj=>by rw[(e j).1,(e j).2];exact h j
theorem SS.Z.setE (h:s.Z) {i:Int} {x:EN} (hx:x.cp=CH.zero/\x.c=(s.e i).c):(s.setE i x).Z:=λj=>by
 unfold SS.setE ay;simp only[];by_cases hj:j=i
 ·subst hj;rw[qP rfl,hx.1,hx.2];exact⟨rfl,(h j).2⟩
 ·rw[qI hj];exact h j
theorem SS.Z.dues (h:s.Z)(i:Int)(l:LF):(s.duesTo i l).Z:=by have h1:=h.setE (i:=i) (x:={s.e i with du:=l}) ⟨(h i).1,rfl⟩;exact h1.like λj=>⟨rfl,rfl⟩
theorem SS.Z.wake1 (h:s.Z)(now i:Int):(s.wake1 now i).Z:=by refine h.setE ⟨?_,rfl⟩;show CH.capped _ _ _ _ _ _=_;unfold CH.capped;rw[qP (h i).2]
theorem SS.Z.wakes:∀{s:SS},s.Z->∀(now:Int)(xs:List Int),(xs.foldl (SS.wake1 now) s).Z
 | _,h,_,[]=>h
 | _,h,now,x::r=>SS.Z.wakes (h.wake1 now x) now r
theorem SS.Z.wakeS (h:s.Z)(now i:Int)(up:List Int):(s.wakeS now i up).Z:=by unfold SS.wakeS;have h1:({s with A:=⟨ay s.A.on i true,(bo s.A.K up).2⟩}:SS).Z:=h;refine(h1.wakes now (bo s.A.K up).1).like λj=>?_;rw[(fU _ up).2.1];exact⟨rfl,rfl⟩
theorem SS.Z.wake (h:s.Z)(now i hh:Int)(up:List Int):(s.wake now i hh up).Z:=by
 unfold SS.wake;dsimp only;have h1:(if SS.real (s.e i).c then s.duesTo i (((s.e i).du.woke (s.e i).c.r0 (s.e i).c.r1 (s.e i).c.r2 now).headed hh) else s).Z:=by
  split
  ·exact h.dues _ _
  ·exact h
 by_cases g:eZ (s.e i).c=true
 ·rw[qP g];exact h1.wakeS now i up
 ·rw[qI g];exact h1
theorem SS.Z.put (h:s.Z) {now i n:Int} {p:PK} {xs:List Int} {s':SS} (e:s.put now i p xs=(n,s')):s'.Z:=by
 unfold SS.put at e;split at e
 ·cases e;exact h
 cases hc:fc s.L i with
 | none=>simp only[hc] at e;cases e;exact h
 | some c=>
  simp only[hc] at e;by_cases g1:c.lf=false
  ·rw[qP g1] at e;cases e;exact h
  rw[qI g1] at e;split at e
  ·cases e;exact h
  split at e
  ·cases e;exact h
  split at e
  ·cases e;exact h
  have h0:({s with clk:=now}:SS).Z:=h;have h1:=h0.setE (i:=i) (x:={s.e i with q:=(s.e i).q++[p]}) ⟨(h i).1,rfl⟩;have h2:({(({s with clk:=now}:SS).setE i {s.e i with q:=(s.e i).q++[p]}) with acc:=s.acc+p.len}:SS).Z:=h1.like λj=>⟨rfl,rfl⟩;split at e
  ·cases e;exact h2.wake _ _ _ _
  ·cases e;exact h2
theorem SS.Z.took (h:s.Z) {now i:Int} {b:Bool} {xs:List Int} {p:PK} {r:List PK} (T:oU s t now i b xs p r):t.Z:=λj=>by
 rw[T.cc j,T.cp j];refine⟨?_,(h j).2⟩;split
 ·rw[(h j).1];rfl
 ·exact(h j).1
theorem yR {now i:Int} {p:PK} {xs:List Int} {c:CD} (h1:s.clk<=now/\now<=4611686018427387904)(hc:fc s.L i=some c)(hl:c.lf=true)(hp:1<=p.len/\p.len<=s.Lm)(ha:s.acc+p.len<=1099511627776)(hb:aA (s.e i).q+p.len<=c.by_)(hq:(s.e i).q.length≠c.pk.toNat):(s.put now i p xs).1=0:=by unfold SS.put;rw[qI (by simp[SS.told,h1])];simp only[hc];rw[qI (by simp[hl]),qI ρa,qI ρa,qI ρa];split<;>rfl
end
end Go.Proofs.YtfdlemkplejdnaaGreat
