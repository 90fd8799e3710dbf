/- WholeDelay, part 37. Conditions: none. -/
import Derived.Test.YtfdlemkplejdnaaGreatA34
import Derived.Test.YtfdlemkplejdnaaGreatA35
import Derived.Test.YtfdlemkplejdnaaGreatA36
namespace Go.Proofs.YtfdlemkplejdnaaGreat
open Go.RowKit Go.Sort
open Value renaming int->ι,pointer->ψ,slice->ζ,tuple->χ,agg->φ,map->μ,bool->β
open IntKind renaming u64->υ,i64->ε,u16->ω
open Ending renaming returned->ϰ
open Go.Proofs.Tryz renaming prog->Ψ,underlying3->Θ,underlying147->Δ,underlying152->Γ,underlying202->Φ,underlying39->Ξ,underlying207->Ω
open Go renaming World->ϖ,Value->ϗ
set_option linter.unusedVariables false
set_option linter.unusedSimpArgs false
set_option maxHeartbeats 8000000
set_option maxRecDepth 100000
theorem BV {m d n t:Int} (hk:kd m d n≠0)(hd:0<=d)(ht:1<=t)(h:¬(3<=kd m d n/\d=t)):sv m d n (t+1)+sv m d n (t - 1)=2*sv m d n t:=by
 have hz:d=0->m=n\/(m=0/\n=0):=by intro e;unfold kd at hk;(repeat' split at hk)<;>omega
 have h3:d≠0->3<=kd m d n:=by intro e;unfold kd at hk ⊢;(repeat' split at hk)<;>(repeat' split)<;>omega
 by_cases e:d=0
 ·have:m=n:=by rcases hz e with g|g<;>omega
  subst e;subst this;unfold sv;have a1:m*(t+1 - 0)=m*t+m:=by rw[Int.sub_zero,Int.mul_add,Int.mul_one]
  have a2:m*(t - 1 - 0)=m*t - m:=by rw[Int.sub_zero,Int.mul_sub,Int.mul_one]
  have a3:m*(t - 0)=m*t:=by rw[Int.sub_zero]
  have a4:m*(t - 1)=m*t - m:=by rw[Int.mul_sub,Int.mul_one]
  rw[ZI ρa,ZI (show ¬t<=0 by omega),a1,a3,Int.mul_zero];split
  ·rw[a4];omega
  ·rw[a2];omega
 ·have JX:d≠t:=λg=>h ⟨h3 e,g⟩;unfold sv;by_cases g:t<d
  ·rw[ZP ρa,ZP ρa,ZP ρa,Int.mul_add,Int.mul_sub,Int.mul_one];omega
  ·rw[ZI ρa,ZI (show ¬t<=d by omega)];have a1:n*(t+1 - d)=n*(t - d)+n:=by rw[show t+1 - d=(t - d)+1 by omega,Int.mul_add,Int.mul_one]
   have a2:n*(t - 1 - d)=n*(t - d) - n:=by rw[show t - 1 - d=(t - d) - 1 by omega,Int.mul_sub,Int.mul_one]
   rw[a1];split
   ·have:t - 1=d:=by omega
    have a3:t - d=1:=ρa;rw[this,a3,Int.mul_one];omega
   ·rw[a2];omega
abbrev gt (R:List CD)(t:Int):Int:=(R.map λc=>sv c.r0 c.r1 c.r2 t).sum
theorem wN {R:List CD} {t:Int} (hc:∀c ∈ R,kd c.r0 c.r1 c.r2≠0/\0<=c.r1)(ht:1<=t)(h:∀c ∈ R,¬(3<=kd c.r0 c.r1 c.r2/\c.r1=t)):gt R (t+1)+gt R (t - 1)=2*gt R t:=by
 induction R with
 | nil=>simp[gt]
 | cons c r ih=>have h1:=BV (hc c ρp).1 (hc c ρp).2 ht (h c ρp);have h2:=ih κt (λd hd=>h d (by simp[hd]));simp only[gt,fV,List.sum_cons] at h2 ⊢;omega
theorem wO {R:List CD} (hc:∀c ∈ R,0<=c.r1):gt R 0=0:=by
 induction R with
 | nil=>simp[gt]
 | cons c r ih=>have h2:=ih κt;simp only[gt,fV,List.sum_cons] at h2 ⊢;rw[h2];unfold sv;rw[ZP (hc c ρp),Int.mul_zero];rfl
theorem zf {R:List CD} {t:Int} (hc:∀c ∈ R,c.r1<=t):gt R (t+1)=gt R t+(R.map λc=>c.r2).sum:=by
 induction R with
 | nil=>simp[gt]
 | cons c r ih=>
  have h2:=ih κt;have h1:=hc c ρp;simp only[gt,fV,List.sum_cons] at h2 ⊢;rw[h2];have:sv c.r0 c.r1 c.r2 (t+1)=sv c.r0 c.r1 c.r2 t+c.r2:=by
   unfold sv;rw[ZI ρa,show t+1 - c.r1=(t - c.r1)+1 by omega,Int.mul_add,Int.mul_one];split
   ·have e:t=c.r1:=by omega
    rw[e,Int.sub_self,Int.mul_zero];omega
   ·omega
  omega
theorem AZ {T:Int} {R:List CD} (h:xc T R)(hc:∀c ∈ R,cV c.r0 c.r1 c.r2):∀t:Nat,gt R t*T<=65536*t:=by
 obtain⟨hk,hn,hs⟩:=h;have PD:∀t:Int,(∃c ∈ R,3<=kd c.r0 c.r1 c.r2/\c.r1=t)->gt R t*T<=65536*t:=by
  rintro t ⟨c,hcR,h3,rfl⟩;have e:(R.map λc'=>sk c'.r0 c'.r1 c'.r2 c.r1)=R.map λc'=>sv c'.r0 c'.r1 c'.r2 c.r1:=List.map_congr_left λd hd=>by unfold sk;rw[ZI (hk d hd)]
  have:=hn c hcR h3;rw[e] at this;exact this
 have Kc:∀c ∈ R,kd c.r0 c.r1 c.r2≠0/\0<=c.r1:=λc h=>⟨(hc c h).1,(hc c h).2.2.1.1⟩;intro t
 induction t with
 | zero=>rw[show ((0:Nat):Int)=0 from rfl,wO (λc h=>(Kc c h).2)];simp
 | succ t ih=>
  apply EX;intro hneg;have main:∀j:Nat,¬gt R (t+1+j:Nat)*T<=65536*(t+1+j:Nat)/\(65536*((t+1+j:Nat):Int) - gt R (t+1+j:Nat)*T) - (65536*((t+j:Nat):Int) - gt R (t+j:Nat)*T)<0:=by
   intro j
   induction j with
   | zero=>exact⟨hneg,by simp only[Nat.add_zero];omega⟩
   | succ j ih2=>
    obtain⟨g1,g2⟩:=ih2;have hl:=wN (R:=R) (t:=((t+1+j:Nat):Int)) Kc ρa (λc hcR hh=>g1 (PD _ ⟨c,hcR,hh⟩));rw[show ((t+1+j:Nat):Int)+1=((t+1+(j+1):Nat):Int) by omega,show ((t+1+j:Nat):Int) - 1=((t+j:Nat):Int) by omega] at hl;have e1:gt R (t+1+(j+1):Nat)*T+gt R (t+j:Nat)*T=2*(gt R (t+1+j:Nat)*T):=by rw[<- Int.add_mul,hl,Int.mul_assoc]
    rw[show t+(j+1)=t+1+j by omega];omega
  obtain⟨g1,g2⟩:=main 1048577;have hf:=zf (R:=R) (t:=((t+1048577:Nat):Int)) (λc h=>by have:=(hc c h).2.2.1.2;omega);rw[show ((t+1048577:Nat):Int)+1=((t+1+1048577:Nat):Int) by omega] at hf;rw[hf,Int.add_mul] at g2;omega
theorem zi {f:CD->Int} {a b:List CD} (h:a.Perm b):(a.map f).sum=(b.map f).sum:=by
 induction h with
 | nil=>rfl
 | cons x _ ih=>simp only[fV,List.sum_cons,ih]
 | swap x y l=>simp only[fV,List.sum_cons];omega
 | trans _ _ h1 h2=>exact h1.trans h2
theorem rE {f:Int->Int} {g:CD->Int}:∀{R:List CD},(∀c ∈ R,f c.id=g c)->cI f (R.map CD.id)=(R.map g).sum
 | [],_=>rfl
 | c::r,h=>by simp only[fV,List.sum_cons,cI];rw[h c ρp,rE (λd hd=>h d (by simp[hd]))]
theorem jA {L:List CD} (h:(L.map CD.id).Nodup):L.Nodup:=by
 induction L with
 | nil=>exact List.nodup_nil
 | cons c r ih=>rw[fV,ZD] at h;rw[ZD];exact⟨λg=>h.1 (List.mem_map.2 ⟨c,g,rfl⟩),ih h.2⟩
theorem gE.mem {L2 L:List CD} {n:Nat} (h:gE L2 L)(R:gD n L)(c:CD):c ∈ L2↔c ∈ L:=by
 constructor
 ·intro g;have:=eO h.nd c g;rw[h.fc] at this;exact(fD this).1
 ·intro g;have:=eO R.nd c g;rw[<- h.fc] at this;exact(fD this).1
theorem gE.rlok {L2 L:List CD} {n:Nat} {T:Int} (h:gE L2 L)(R:gD n L)(hn:n<=64)(hl:L2.length<=64)(hF:xc T (L.filter SS.real)):lu T L2:=by
 obtain⟨K,C,W⟩:=h.lok R hn hl;have hp:(L2.filter SS.real).Perm (L.filter SS.real):=(List.perm_ext_iff_of_nodup ((jA h.nd).filter _) ((jA R.nd).filter _)).2 λc=>by rw[ZE,ZE,h.mem R]
 have hcin:∀c ∈ L.filter SS.real,cV c.r0 c.r1 c.r2:=λc hc=>(C c ((h.mem R c).2 (ZE.1 hc).1)).1;refine⟨λt ht=>?_,λi c hc hr=>?_⟩
 ·have:=AZ hF hcin t.toNat;rw[show ((t.toNat:Nat):Int)=t by omega] at this;unfold fw;rw[rE (g:=λc=>sv c.r0 c.r1 c.r2 t) (λc hc=>by rw[jr (eO h.nd c (ZE.1 hc).1)]),zi hp,Int.mul_comm];exact this
 ·have F:=WC.facts (W c (fD hc).1).1;cases hl:c.lf with
  | true=>rfl
  | false=>have h1:=F.2.2.2.2.2.2.2.2.2 hl;unfold SS.real de at hr;rw[h1] at hr;exact az hr ρf
def ly (id:Int)(L:List EV):Prop:=∀a v b,L=a++v::b->dk id v=true->(bD id a).length<(ins id a).length
theorem ly.pre {id:Int} {a b:List EV} (h:ly id (a++b)):ly id a:=λx v y e ho=>h x v (y++b) (by rw[e];simp) ho
theorem ly.cur {id:Int} {l:List EV} (h:ly id l):sS [id] l=((ins id l).length:Int) - (bD id l).length/\(bD id l).length<=(ins id l).length:=by
 have main:∀(n:Nat) (l:List EV),l.length=n->ly id l->sS [id] l=((ins id l).length:Int) - (bD id l).length/\(bD id l).length<=(ins id l).length:=by
  intro n
  induction n with
  | zero=>intro l hl _;rw[List.length_eq_zero_iff.1 hl];exact⟨rfl,ZR _⟩
  | succ n ih=>
   intro l hl hv;rcases List.eq_nil_or_concat l with rfl|⟨l',e,rfl⟩
   ·simp at hl
   ·rw[List.concat_eq_append] at hl hv ⊢;obtain⟨h1,h2⟩:=ih l' (by simpa using hl) hv.pre;rw[vF,h1,eP,cG,dh,bP];unfold ze;by_cases hc:e.cls=id
    ·rw[ZP (by simp[hc])];cases hi:e.inn with
     | true=>have a1:dU id e=true:=fj.2 ⟨hi,hc⟩;have a2:=fo a1;simp[a1,a2,ins,bD] at h2 ⊢;omega
     | false=>have a1:dk id e=true:=dF.2 ⟨hi,hc⟩;have a2:=lT a1;have:=hv l' e [] rfl a1;simp[a1,a2,ins,bD] at this ⊢;split<;>omega
    ·rw[ZI (by simp[hc])];have a1:dU id e=false:=by simp[dU,hc]
     have a2:dk id e=false:=by simp[dk,hc]
     simp[a1,a2,ins,bD] at h2 ⊢;exact h2
 exact main _ l rfl h
structure pF (T Lm clk:Int) (c:CD) (L:List EV):Prop where
 cin:cV c.r0 c.r1 c.r2
 out:∀a v b,L=a++v::b->dk c.id v=true->xd c.r0 c.r1 c.r2 (T*Lm) c.id a v.done/\v.done<=Mc
 wt:(bD c.id L).length<(ins c.id L).length->xd c.r0 c.r1 c.r2 (T*Lm) c.id L (clk+1)
 len:∀e ∈ L,e.inn=true->1<=e.pk.len
 at_:∀e ∈ L,0<=e.at_/\e.pk.len<=16384
 clk:clk<=4611686018427387904
section
variable {T Lm clk:Int} {c:CD} {L:List EV}
theorem pF.valid (H:pF T Lm clk c L):ly c.id L:=λa v b e ho=>by obtain⟨⟨a1,ea,a2,s1,es,s2,t,rfl,h2,h3,_⟩,_⟩:=H.out a v b e ho;rw[<- h3,eP,dh,ZP h2];simp
end
def YS.EVs (y:YS):Prop:=∀e ∈ y.ev,(∃c,fc y.s.L e.cls=some c)/\e.done<=4611686019501129728/\e.pk.len<=16384
section
variable {op:Int} {y z:YS}
theorem fN.evs (hp:fN op y z)(h:y.Ok0)(E:y.EVs):z.EVs:=by
 cases hp with
 | busy hb=>exact E
 | idle hb Kh=>exact E
 | @pick i b c xs p r hb Kh hc hq hu=>
  obtain⟨P,hl,T,I,N,hp,ht⟩:=h.pick Kh hc hq hu;have Sp:=h.num.lm;have OF:=h.clk;intro e he;rw[T.L];rcases ZM.1 he with g|g
  ·exact E e g
  ·rw[ZS.1 g];exact⟨⟨c,hc⟩,by show y.clk+y.s.T*p.len<=_;omega,by show p.len<=_;omega⟩
theorem bY.evs {stop:Int} (hr:bY op stop y z)(h:y.Ok)(hs:stop<=4611686018427387904)(h0:y.clk<=stop)(E:y.EVs):z.EVs:=by
 induction hr with
 | @done y hn=>exact E
 | @next y z t hn hp _ ih=>have ha:=h.at_next hs hn;obtain⟨g1,g2,g3,g4,g5⟩:=hp.ok ha;exact ih g1 (by rw[g2];exact hn) (hp.evs ha E)
theorem kX.evs (hs:kX op y z)(h:y.Ok)(E:y.EVs):z.EVs:=by
 cases hs with
 | nothing=>exact E
 | refused hn e JX=>
  rcases bW h.inv.ec hn e with ⟨_,rfl|⟨rfl,_⟩⟩|⟨g,_⟩
  ·exact E
  ·exact E
  ·exact az g JX
 | @packet i p xs s' z hP e hp=>
  have I:=h.inv.put hP e;have hn:xs.Nodup\/fc y.s.L i=none:=by
   cases hc:fc y.s.L i with
   | none=>exact .inr rfl
   | some c=>exact ηL
  rcases hn with hn|hn
  ·rcases bW h.inv.ec hn e with ⟨g,_⟩|⟨_,c,F⟩
   ·exact az rfl g
   ·have P:=hP c F.cls.1;refine δb ?_;intro N O;refine hp.evs O λe he=>?_;show (∃c,fc s'.L e.cls=some c)/\_;rw[F.L];rcases ZM.1 he with g|g
    ·exact E e g
    ·rw[ZS.1 g];have:=F.len;have:=h.num.lm;exact⟨⟨c,F.cls.1⟩,by show (0:Int)<=_;omega,by show p.len<=_;omega⟩
  ·exact ξ9
 | adv h0 h1 hr=>exact hr.evs h h1 h0 E
theorem jk.evs {y0:YS} {l:List OI} (hr:jk y0 l y)(h0:y0.Ok)(E:y0.EVs):y.EVs:=by
 induction hr with
 | nil=>exact E
 | snoc hr _ hs _ ih=>exact hs.evs (hr.ok h0).1 ih
theorem jk.clk {y0:YS} {l:List OI} (hr:jk y0 l y):y.clk=l.foldl (λc x=>x.clk c) y0.clk:=by
 induction hr with
 | nil=>rfl
 | snoc hr _ hs e ih=>rw[List.foldl_append];show _=OI.clk _ _;rw[e,ih]
end
structure xe (T Lm:Int) (L2 M:List CD) (x0:OI) (r:List OI) (y:YS):Prop where
 clk:y.clk=jo (x0::r)
 ok:y.Ok
 ev:y.ev.length<=2*(r.length+1)
 at_:∀e ∈ y.ev,0<=e.at_/\e.pk.len<=16384
 srt:y.ev.Pairwise (λa b=>a.at_<=b.at_)/\∀e ∈ y.ev,e.at_<=4611686018427387904
 lat:∀c ∈ M,SS.real c=true->pF T Lm (jo (x0::r)) c y.ev
theorem Ee {T Lm:Int} {L2 M:List CD} {n:Nat} {Pn:Int->Prop} {x0:OI} {r:List OI} {y:YS} (NN:gE L2 M)(R:gD n M)(hn:n<=64)(hl:L2.length<=64)(hF:xc T (M.filter SS.real))(hT:1<=T/\T<=65536)(Sp:1<=Lm/\Lm<=16384)(hk:x0.k=1)(h:eN T Lm (mP T Lm L2 Pn) (x0::r) y):xe T Lm L2 M x0 r y:=by
 obtain⟨K,C,W⟩:=NN.lok R hn hl;have Kf:∀y0,mP T Lm L2 Pn y0->y0.Ok:=λy0 h0=>ηK
 have JS:=eN.len Kf h;obtain⟨y0,hs,hr⟩:=h;have h0:=Kf y0 hs;obtain⟨hy,hL,hTe,hLe⟩:=hr.ok h0;have Ms:y.clk=jo (x0::r):=by
  rw[hr.clk];unfold jo;rw[List.foldl_cons];have:OI.clk x0 0=0:=by unfold OI.clk;rw[ZI ρa]
  rw[this];rcases hs with ⟨_,_,_,rfl⟩|⟨_,rfl⟩<;>rfl
 have hE:y.EVs:=hr.evs h0 (by rcases hs with ⟨_,_,_,rfl⟩|⟨_,rfl⟩<;>(intro e he;have he:e ∈ ([]:List EV):=he;cases he));have OF:=hy.clk;rcases hs with ⟨_,_,_,rfl⟩|⟨_,rfl⟩
 ·have hLn:y.s.L=[]:=hL;have Nc:y.ev=[]:=by
   cases he:y.ev with
   | nil=>rfl
   | cons e l=>obtain⟨⟨c,hc⟩,_⟩:=hE e (by rw[he];simp);rw[hLn] at hc;cases hc
  refine⟨Ms,hy,by simpa using JS,λe he=>(by rw[Nc] at he;cases he),by rw[Nc];exact⟨List.Pairwise.nil,λe he=>by cases he⟩,λc hc Mz=>?_⟩;rw[Nc];refine⟨(C c ((NN.mem R c).2 hc)).1,λa v b e=>?_,λg=>?_,λe he=>?_,λe he=>?_,by rw[<- Ms];exact OF.2.2⟩
  ·cases a<;>cases e
  ·have g:(0:Nat)<0:=g;omega
  ·cases he
  ·cases he
 ·have hLn:y.s.L=L2:=hL;have hTn:y.s.T=T:=hTe;have hLmn:y.s.Lm=Lm:=hLe;have K9:=NN.rlok R hn hl hF;have D:=hr.du h0 (show lu T L2 from K9) (fU.du K NN.nd C hT Sp);have RD:=D.ds;unfold YS.DSx at RD;rw[hLn,hTn,hLmn] at RD;refine⟨Ms,hy,by simpa using JS,λe he=>⟨(RD.tm.2 e he).1,(hE e he).2.2⟩,⟨RD.tm.1,λe he=>Int.le_trans (RD.tm.2 e he).2 (by have:=OF.2.2;have:=OF.1;omega)⟩,λc hc Mz=>?_⟩;have Vc:fc L2 c.id=some c:=by rw[NN.fc];exact eO R.nd c hc
  have hi:c.id ∈ fw L2:=(dE K).2 ⟨c,Vc,Mz⟩;have QU:=jr Vc;refine⟨(C c ((NN.mem R c).2 hc)).1,λa v b e ho=>⟨?_,?_⟩,λg=>?_,λe he hi2=>(RD.len e he hi2).1,λe he=>⟨(RD.tm.2 e he).1,(hE e he).2.2⟩,by rw[<- Ms];exact OF.2.2⟩
  ·have:=RD.hist c.id hi a v b e ho;rw[QU] at this;exact this
  ·have:=(hE v (by rw[e];simp)).2.1;omega
  ·have hff:=(RD.gh c.id hi).fifo;cases hq:(y.s.e c.id).q with
   | nil=>simp only[hq,ZA] at hff;rw[hff] at g;omega
   | cons p q=>have:=D.wait hy (by rw[hTn,hLn];exact K9) (by rw[hLn];exact hi) hq;rw[hLn,QU,hTn,hLmn,Ms] at this;exact this
section
open Go.ChangeShapes Go.WideShapes Go.ChangeAt Go.RowKit
theorem sO {α:Type} {l:List α} (h:l.length=2):∃a0 a1,l=[a0,a1]:=by
 match l,h with
 | [a0,a1],_=>exact⟨a0,a1,rfl⟩
theorem i7 {α:Type} {l:List α} (h:l.length=3):∃a0 a1 a2,l=[a0,a1,a2]:=by
 match l,h with
 | [a0,a1,a2],_=>exact⟨a0,a1,a2,rfl⟩
theorem sP {α:Type} {l:List α} (h:l.length=8):∃a0 a1 a2 a3 a4 a5 a6 a7,l=[a0,a1,a2,a3,a4,a5,a6,a7]:=by
 match l,h with
 | [a0,a1,a2,a3,a4,a5,a6,a7],_=>exact⟨a0,a1,a2,a3,a4,a5,a6,a7,rfl⟩
theorem pQ {α:Type} {l:List α} (h:l.length=15):∃a0 a1 a2 a3 a4 a5 a6 a7 a8 a9 a10 a11 a12 a13 a14,l=[a0,a1,a2,a3,a4,a5,a6,a7,a8,a9,a10,a11,a12,a13,a14]:=by
 match l,h with
 | [a0,a1,a2,a3,a4,a5,a6,a7,a8,a9,a10,a11,a12,a13,a14],_=>exact⟨a0,a1,a2,a3,a4,a5,a6,a7,a8,a9,a10,a11,a12,a13,a14,rfl⟩
theorem pN {H:Type} {w:ϖ} {base:Nat} {Kj:Nat->Bool} {KU:Bool} {enc:TypeId × ϗ->H} {fuel:Nat} {c0 c1 c2 c3 c4 c5 c6 c7 c8 c9 c10 c11 c12 c13 c14:ϗ} {x:DataW H × List MemPlace} (hf:DataW.trod enc Ψ w base Kj KU fuel 86 [c0,c1,c2,c3,c4,c5,c6,c7,c8,c9,c10,c11,c12,c13,c14]=some x):
  ∃(x0:Int) (x1:Int) (x2:Int) (x3:Bool) (x4:Int) (x5:Int) (x6:Int) (x7:Int) (x8:Int) (x9:Int) (x10:Int) (x11:Int) (x12:Int) (x13:Int) (x14:Int),[c0,c1,c2,c3,c4,c5,c6,c7,c8,c9,c10,c11,c12,c13,c14]=[ι ε x0,ι ε x1,ι ε x2,β x3,x4,x5,x6,x7,x8,x9,x10,x11,x12,ι ε x13,ι ε x14]/\(-Mc<=x0/\x0<=Mb)/\(-Mc<=x1/\x1<=Mb)/\(-Mc<=x2/\x2<=Mb)/\(0<=x4/\x4<=Ma)/\(0<=x5/\x5<=Ma)/\(0<=x6/\x6<=Ma)/\(0<=x7/\x7<=Ma)/\(0<=x8/\x8<=Ma)/\(0<=x9/\x9<=Ma)/\(0<=x10/\x10<=Ma)/\(0<=x11/\x11<=Ma)/\(0<=x12/\x12<=Ma)/\(-Mc<=x13/\x13<=Mb)/\(-Mc<=x14/\x14<=Mb):=by
 have k0:Ψ.cellsOf 86=15:=ρh;have k1:Ψ.cellsOf 3=1:=ρh;have k2:Ψ.cellsOf 43=14:=ρh;have k3:Ψ.cellsOf 4=1:=ρh;have k4:Ψ.cellsOf 41=3:=ρh;have k5:Ψ.cellsOf 39=1:=ρh;obtain⟨ys0,m0,_,_,_,Nr,LA⟩:=DataW.trod_struct Tryz.underlying86 hf;obtain⟨y0_0,y0_1,rfl⟩:=sO Nr;have Ow:=LA 0 _ rfl;have Ox:=LA 1 _ rfl;simp[k1,k2] at Ow Ox;obtain⟨x0,e0,_,w0⟩:=ZY Θ Ow;obtain⟨ys1,m1,_,_,_,Uh,KA⟩:=DataW.trod_struct Tryz.underlying43 Ox;obtain⟨y1_0,y1_1,y1_2,y1_3,y1_4,y1_5,y1_6,y1_7,rfl⟩:=sP Uh;have Oy:=KA 0 _ rfl;have Oz:=KA 1 _ rfl;have QF:=KA 2 _ rfl;have VC:=KA 3 _ rfl;have q1_4:=KA 4 _ rfl;have q1_5:=KA 5 _ rfl;have q1_6:=KA 6 _ rfl;have q1_7:=KA 7 _ rfl;simp[k1,k3,k4] at Oy Oz QF VC q1_4 q1_5 q1_6 q1_7;obtain⟨x1,e1,_,w1⟩:=ZY Θ Oy;obtain⟨x2,e2,_,w2⟩:=ZY Θ Oz;obtain⟨x3,e3,_⟩:=DataW.trod_bool Tryz.underlying4 QF;obtain⟨ys2,m2,_,_,_,PE,NY⟩:=DataW.trod_struct Tryz.underlying41 VC;obtain⟨y2_0,y2_1,y2_2,rfl⟩:=i7 PE;have QG:=NY 0 _ rfl;have QH:=NY 1 _ rfl;have QI:=NY 2 _ rfl;simp[k5] at QG QH QI;obtain⟨x4,e4,_,w4⟩:=ZY Ξ QG;obtain⟨x5,e5,_,w5⟩:=ZY Ξ QH;obtain⟨x6,e6,_,w6⟩:=ZY Ξ QI;obtain⟨ys3,m3,_,_,_,hl3,hx3⟩:=DataW.trod_struct Tryz.underlying41 q1_4;obtain⟨y3_0,y3_1,y3_2,rfl⟩:=i7 hl3;have q3_0:=hx3 0 _ rfl;have q3_1:=hx3 1 _ rfl;have q3_2:=hx3 2 _ rfl;simp[k5] at q3_0 q3_1 q3_2;obtain⟨x7,e7,_,w7⟩:=ZY Ξ q3_0;obtain⟨x8,e8,_,w8⟩:=ZY Ξ q3_1;obtain⟨x9,e9,_,w9⟩:=ZY Ξ q3_2;obtain⟨ys4,m4,_,_,_,hl4,hx4⟩:=DataW.trod_struct Tryz.underlying41 q1_5;obtain⟨y4_0,y4_1,y4_2,rfl⟩:=i7 hl4;have q4_0:=hx4 0 _ rfl;have q4_1:=hx4 1 _ rfl;have q4_2:=hx4 2 _ rfl;simp[k5] at q4_0 q4_1 q4_2;obtain⟨x10,P',_,w10⟩:=ZY Ξ q4_0;obtain⟨x11,e11,_,w11⟩:=ZY Ξ q4_1;obtain⟨x12,e12,_,w12⟩:=ZY Ξ q4_2;obtain⟨x13,e13,_,w13⟩:=ZY Θ q1_6;obtain⟨x14,e14,_,w14⟩:=ZY Θ q1_7;simp at e0 e1 e2 e3 e4 e5 e6 e7 e8 e9 P' e11 e12 e13 e14;subst e0 e1 e2 e3 e4 e5 e6 e7 e8 e9 P' e11 e12 e13 e14;exact⟨x0,x1,x2,x3,x4,x5,x6,x7,x8,x9,x10,x11,x12,x13,x14,rfl,bounds_i64 w0,bounds_i64 w1,bounds_i64 w2,bounds_u64 w4,bounds_u64 w5,bounds_u64 w6,bounds_u64 w7,bounds_u64 w8,bounds_u64 w9,bounds_u64 w10,bounds_u64 w11,bounds_u64 w12,bounds_i64 w13,bounds_i64 w14⟩
theorem wC {α:Type} {l:List α} (h:l.length=3):∃a0 a1 a2,l=[a0,a1,a2]:=by
 match l,h with
 | [a0,a1,a2],_=>exact⟨a0,a1,a2,rfl⟩
theorem nD {α:Type} {l:List α} (h:l.length=4):∃a0 a1 a2 a3,l=[a0,a1,a2,a3]:=by
 match l,h with
 | [a0,a1,a2,a3],_=>exact⟨a0,a1,a2,a3,rfl⟩
theorem wD {α:Type} {l:List α} (h:l.length=9):∃a0 a1 a2 a3 a4 a5 a6 a7 a8,l=[a0,a1,a2,a3,a4,a5,a6,a7,a8]:=by
 match l,h with
 | [a0,a1,a2,a3,a4,a5,a6,a7,a8],_=>exact⟨a0,a1,a2,a3,a4,a5,a6,a7,a8,rfl⟩
theorem sM {H:Type} {w:ϖ} {base:Nat} {Kj:Nat->Bool} {KU:Bool} {enc:TypeId × ϗ->H} {fuel:Nat} {c0 c1 c2 c3 c4 c5 c6 c7 c8:ϗ} {x:DataW H × List MemPlace} (hf:DataW.trod enc Ψ w base Kj KU fuel 88 [c0,c1,c2,c3,c4,c5,c6,c7,c8]=some x):
  ∃(x0:Int) (x1:Int) (x2:Int) (x3:Int) (x4:Int) (x5:Int) (x6:Int) (x7:Int) (x8:Int),[c0,c1,c2,c3,c4,c5,c6,c7,c8]=[ι ω x0,ι ω x1,ι ω x2,ι ω x3,ι ω x4,ι ω x5,ι ω x6,ι ω x7,ι ε x8]/\(0<=x0/\x0<=65535)/\(0<=x1/\x1<=65535)/\(0<=x2/\x2<=65535)/\(0<=x3/\x3<=65535)/\(0<=x4/\x4<=65535)/\(0<=x5/\x5<=65535)/\(0<=x6/\x6<=65535)/\(0<=x7/\x7<=65535)/\(-Mc<=x8/\x8<=Mb):=by
 have k0:Ψ.cellsOf 88=9:=ρh;have k1:Ψ.cellsOf 48=4:=ρh;have k2:Ψ.cellsOf 46=1:=ρh;have k3:Ψ.cellsOf 3=1:=ρh;obtain⟨ys0,m0,_,_,_,Nr,LA⟩:=DataW.trod_struct Tryz.underlying88 hf;obtain⟨y0_0,y0_1,y0_2,rfl⟩:=wC Nr;have Ow:=LA 0 _ rfl;have Ox:=LA 1 _ rfl;have VA:=LA 2 _ rfl;simp[k1,k3] at Ow Ox VA;obtain⟨ys1,m1,_,_,_,Uh,KA⟩:=DataW.trod_array Tryz.underlying48 Ow;obtain⟨y1_0,y1_1,y1_2,y1_3,rfl⟩:=nD Uh;have Oy:=KA 0 ρp;have Oz:=KA 1 ρp;have QF:=KA 2 ρp;have VC:=KA 3 ρp;simp[k2] at Oy Oz QF VC;obtain⟨x0,e0,_,w0⟩:=ZY Tryz.underlying46 Oy;obtain⟨x1,e1,_,w1⟩:=ZY Tryz.underlying46 Oz;obtain⟨x2,e2,_,w2⟩:=ZY Tryz.underlying46 QF;obtain⟨x3,e3,_,w3⟩:=ZY Tryz.underlying46 VC;obtain⟨ys2,m2,_,_,_,PE,NY⟩:=DataW.trod_array Tryz.underlying48 Ox;obtain⟨y2_0,y2_1,y2_2,y2_3,rfl⟩:=nD PE;have QG:=NY 0 ρp;have QH:=NY 1 ρp;have QI:=NY 2 ρp;have VD:=NY 3 ρp;simp[k2] at QG QH QI VD;obtain⟨x4,e4,_,w4⟩:=ZY Tryz.underlying46 QG;obtain⟨x5,e5,_,w5⟩:=ZY Tryz.underlying46 QH;obtain⟨x6,e6,_,w6⟩:=ZY Tryz.underlying46 QI;obtain⟨x7,e7,_,w7⟩:=ZY Tryz.underlying46 VD;obtain⟨x8,e8,_,w8⟩:=ZY Θ VA;simp at e0 e1 e2 e3 e4 e5 e6 e7 e8;subst e0 e1 e2 e3 e4 e5 e6 e7 e8;exact⟨x0,x1,x2,x3,x4,x5,x6,x7,x8,rfl,bounds_u16 w0,bounds_u16 w1,bounds_u16 w2,bounds_u16 w3,bounds_u16 w4,bounds_u16 w5,bounds_u16 w6,bounds_u16 w7,bounds_i64 w8⟩
theorem wh {α:Type} {l:List α} (h:l.length=3):∃a0 a1 a2,l=[a0,a1,a2]:=by
 match l,h with
 | [a0,a1,a2],_=>exact⟨a0,a1,a2,rfl⟩
theorem wi {α:Type} {l:List α} (h:l.length=4):∃a0 a1 a2 a3,l=[a0,a1,a2,a3]:=by
 match l,h with
 | [a0,a1,a2,a3],_=>exact⟨a0,a1,a2,a3,rfl⟩
theorem wj {α:Type} {l:List α} (h:l.length=5):∃a0 a1 a2 a3 a4,l=[a0,a1,a2,a3,a4]:=by
 match l,h with
 | [a0,a1,a2,a3,a4],_=>exact⟨a0,a1,a2,a3,a4,rfl⟩
theorem tA {α:Type} {l:List α} (h:l.length=10):∃a0 a1 a2 a3 a4 a5 a6 a7 a8 a9,l=[a0,a1,a2,a3,a4,a5,a6,a7,a8,a9]:=by
 match l,h with
 | [a0,a1,a2,a3,a4,a5,a6,a7,a8,a9],_=>exact⟨a0,a1,a2,a3,a4,a5,a6,a7,a8,a9,rfl⟩
theorem sL {H:Type} {w:ϖ} {base:Nat} {Kj:Nat->Bool} {KU:Bool} {enc:TypeId × ϗ->H} {fuel:Nat} {c0 c1 c2 c3 c4 c5 c6 c7 c8 c9:ϗ} {x:DataW H × List MemPlace} (hf:DataW.trod enc Ψ w base Kj KU fuel 80 [c0,c1,c2,c3,c4,c5,c6,c7,c8,c9]=some x):
  ∃(x0:Int) (x3:Int) (x4:Int) (x5:Int) (x6:Int) (x7:Int) (x8:Int) (x9:Int),[c0,c1,c2,c3,c4,c5,c6,c7,c8,c9]=[ι ε x0,c1,c2,x3,ι ε x4,ι ω x5,ι ω x6,ι ω x7,ι ω x8,x9]/\(-Mc<=x0/\x0<=Mb)/\(0<=x3/\x3<=Ma)/\(-Mc<=x4/\x4<=Mb)/\(0<=x5/\x5<=65535)/\(0<=x6/\x6<=65535)/\(0<=x7/\x7<=65535)/\(0<=x8/\x8<=65535)/\(0<=x9/\x9<=Ma)/\(∃f y,DataW.trod enc Ψ w base Kj KU f 77 [c1]=some y)/\(∃f y,DataW.trod enc Ψ w base Kj KU f 78 [c2]=some y):=by
 have k0:Ψ.cellsOf 80=10:=ρh;have k1:Ψ.cellsOf 3=1:=ρh;have k2:Ψ.cellsOf 77=1:=ρh;have k3:Ψ.cellsOf 78=1:=ρh;have k4:Ψ.cellsOf 50=6:=ρh;have k5:Ψ.cellsOf 39=1:=ρh;have k6:Ψ.cellsOf 48=4:=ρh;have k7:Ψ.cellsOf 46=1:=ρh;obtain⟨ys0,m0,_,_,_,Nr,LA⟩:=DataW.trod_struct Tryz.underlying80 hf;obtain⟨y0_0,y0_1,y0_2,y0_3,y0_4,rfl⟩:=wj Nr;have Ow:=LA 0 _ rfl;have Ox:=LA 1 _ rfl;have VA:=LA 2 _ rfl;have q0_3:=LA 3 _ rfl;have q0_4:=LA 4 _ rfl;simp[k1,k2,k3,k4,k5] at Ow Ox VA q0_3 q0_4;obtain⟨x0,e0,_,w0⟩:=ZY Θ Ow;have s1:=Ox;have s2:=VA;obtain⟨ys1,m1,_,_,_,Uh,KA⟩:=DataW.trod_struct Tryz.underlying50 q0_3;obtain⟨y1_0,y1_1,y1_2,rfl⟩:=wh Uh;have Oy:=KA 0 _ rfl;have Oz:=KA 1 _ rfl;have QF:=KA 2 _ rfl;simp[k1,k5,k6] at Oy Oz QF;obtain⟨x3,e3,_,w3⟩:=ZY Ξ Oy;obtain⟨x4,e4,_,w4⟩:=ZY Θ Oz;obtain⟨ys2,m2,_,_,_,PE,NY⟩:=DataW.trod_array Tryz.underlying48 QF;obtain⟨y2_0,y2_1,y2_2,y2_3,rfl⟩:=wi PE;have QG:=NY 0 ρp;have QH:=NY 1 ρp;have QI:=NY 2 ρp;have VD:=NY 3 ρp;simp[k7] at QG QH QI VD;obtain⟨x5,e5,_,w5⟩:=ZY Tryz.underlying46 QG;obtain⟨x6,e6,_,w6⟩:=ZY Tryz.underlying46 QH;obtain⟨x7,e7,_,w7⟩:=ZY Tryz.underlying46 QI;obtain⟨x8,e8,_,w8⟩:=ZY Tryz.underlying46 VD;obtain⟨x9,e9,_,w9⟩:=ZY Ξ q0_4;simp at e0 e3 e4 e5 e6 e7 e8 e9;subst e0 e3 e4 e5 e6 e7 e8 e9;exact⟨x0,x3,x4,x5,x6,x7,x8,x9,rfl,bounds_i64 w0,bounds_u64 w3,bounds_i64 w4,bounds_u16 w5,bounds_u16 w6,bounds_u16 w7,bounds_u16 w8,bounds_u64 w9,⟨_,_,s1⟩,⟨_,_,s2⟩⟩
theorem nH {α:Type} {l:List α} (h:l.length=2):∃a0 a1,l=[a0,a1]:=by
 match l,h with
 | [a0,a1],_=>exact⟨a0,a1,rfl⟩
theorem wG {α:Type} {l:List α} (h:l.length=3):∃a0 a1 a2,l=[a0,a1,a2]:=by
 match l,h with
 | [a0,a1,a2],_=>exact⟨a0,a1,a2,rfl⟩
theorem sN {H:Type} {w:ϖ} {base:Nat} {Kj:Nat->Bool} {KU:Bool} {enc:TypeId × ϗ->H} {fuel:Nat} {c0 c1 c2:ϗ} {x:DataW H × List MemPlace} (hf:DataW.trod enc Ψ w base Kj KU fuel 26 [c0,c1,c2]=some x):
  ∃(x0:Int) (x1:Int),[c0,c1,c2]=[ι ε x0,ι ε x1,c2]/\(-Mc<=x0/\x0<=Mb)/\(-Mc<=x1/\x1<=Mb)/\(∃f y,DataW.trod enc Ψ w base Kj KU f 24 [c2]=some y):=by
 have k0:Ψ.cellsOf 26=3:=ρh;have k1:Ψ.cellsOf 23=2:=ρh;have k2:Ψ.cellsOf 3=1:=ρh;have k3:Ψ.cellsOf 24=1:=ρh;obtain⟨ys0,m0,_,_,_,Nr,LA⟩:=DataW.trod_struct Tryz.underlying26 hf;obtain⟨y0_0,y0_1,rfl⟩:=nH Nr;have Ow:=LA 0 _ rfl;have Ox:=LA 1 _ rfl;simp[k1,k3] at Ow Ox;obtain⟨ys1,m1,_,_,_,Uh,KA⟩:=DataW.trod_struct Tryz.underlying23 Ow;obtain⟨y1_0,y1_1,rfl⟩:=nH Uh;have Oy:=KA 0 _ rfl;have Oz:=KA 1 _ rfl;simp[k2] at Oy Oz;obtain⟨x0,e0,_,w0⟩:=ZY Θ Oy;obtain⟨x1,e1,_,w1⟩:=ZY Θ Oz;have s2:=Ox;simp at e0 e1;subst e0 e1;exact⟨x0,x1,rfl,bounds_i64 w0,bounds_i64 w1,⟨_,_,s2⟩⟩
theorem uG {α:Type} {P:Nat->α->Prop}:∀n:Nat,(∀i,i<n->∃a,P i a)->∃L:List α,L.length=n/\∀i a,L[i]?=some a->P i a
 | 0,_=>⟨[],rfl,λi a h=>by simp at h⟩
 | n+1,h=>by
  obtain⟨L,h1,h2⟩:=uG n (λi hi=>h i ρa);obtain⟨a,ha⟩:=h n ρa;refine⟨L++[a],by simp[h1],λi b hb=>?_⟩;by_cases g:i<n
  ·rw[List.getElem?_append_left ρa] at hb;exact h2 i b hb
  ·rw[List.getElem?_append_right ρa] at hb;have:i - L.length=0:=by
    apply EX;intro g2;obtain⟨k,hk⟩:∃k,i - L.length=k+1:=⟨i - L.length - 1,by omega⟩;rw[hk] at hb;simp at hb
   rw[this] at hb;simp at hb;have:i=n:=ρa;subst this;rw[<- hb];exact ha
theorem ns {α:Type} (R:α->List ϗ->Prop) {n:Nat} {ZX sty:TypeId} {H:Type} {w:ϖ} {base:Nat} {Kj:Nat->Bool} {KU:Bool} {enc:TypeId × ϗ->H} {fuel:Nat} {v:ϗ} {x:DataW H × List MemPlace} (hu:Ψ.underlying sty=some (.slice ZX))(hN:Ψ.cellsOf ZX=n)(Mu:0<n)
  (Ug:∀fuel cs x,DataW.trod enc Ψ w base Kj KU fuel ZX cs=some x->cs.length=n->∃a,R a cs) (h:DataW.trod enc Ψ w base Kj KU fuel sty [v]=some x):
  ∃(s:Option Addr) (JN:Nat) (L:List α),v=ζ s L.length JN/\L.length<=maxLen/\(s=none->JN=0/\L=[])/\(L≠[]->∃g off,s=some ⟨g,off,none⟩/\g<w.heap.size/\∀i a,L[i]?=some a->∃cs,R a cs/\w.rangeAt g (off+i*n) cs):=by
 rcases Go.Deep.open_slice hu h with ⟨Lw,_⟩|⟨a,len',Ps,m,n',D,Pl,Lw,hb,hl,hm,Uk,hx,hi⟩
 ·simp at Lw;exact⟨none,0,[],Lw,by simp,λ_=>⟨rfl,rfl⟩,λg=>az rfl g⟩
 ·simp at Lw;have hlm:len'<=m:=by rw[Uk];split<;>omega
  rw[hN] at hi;have J9:∀i,i<len'->∃y:α,∃cs,R y cs/\cs.length=n/\∀j,j<n->w.cell? ((a.add (i*n)).add j)=cs[j]?:=by intro i hil;obtain⟨cs',hc,ht⟩:=hi i ρa;obtain⟨_,JS,Mq⟩:=World.cells?_some hc;obtain⟨y,hy⟩:=Ug _ _ _ ht JS;exact⟨y,cs',hy,JS,Mq⟩
  obtain⟨L,hL,hP⟩:=uG len' J9;refine⟨some a,Ps,L,by rw[hL];exact Lw,by omega,λe=>(by cases e),λJX=>?_⟩;have h0:0<len':=by rw[<- hL];exact List.length_pos_iff.2 JX
  obtain⟨b,off,spot⟩:=a;have first:∃u,w.cell? ⟨b,off,spot⟩=some u:=by obtain⟨y,cs,_,PE,Mq⟩:=J9 0 h0;have:=Mq 0 Mu;rw[Nat.zero_mul] at this;exact⟨cs[0]'ρa,by simpa [Addr.add,List.getElem?_eq_getElem (show 0<cs.length by omega)] using this⟩
  obtain⟨u,hu0⟩:=first;have hspot:spot=none:=World.cell?_spot hu0;subst hspot;refine⟨b,off,rfl,?_,λi y hy=>?_⟩
  ·by_cases hb:b<w
   ·exact hb
   ·simp[World.cell?,Array.getElem?_eq_none (show w.heap.size<=b by omega)] at hu0
  ·obtain⟨cs,h1,h2,h3⟩:=hP i y hy;refine⟨cs,h1,λj z hj=>?_⟩;have hjn:j<n:=by rw[<- h2];exact(List.getElem?_eq_some_iff.1 hj).1
   have h4:=h3 j hjn;rw[hj] at h4;rw[Go.Deep.add_add] at h4;unfold Addr.add at h4;by_cases g0:i*n+j=0
   ·rw[ZP g0] at h4;rw[show off+i*n+j=off by omega];exact h4
   ·rw[ZI g0] at h4;rw[show off+i*n+j=off+(i*n+j) by omega];exact h4
theorem uO {α:Type} {enc2:α->List ϗ} (P:α->Prop) {n:Nat} {ZX sty:TypeId} {H:Type} {w:ϖ} {base:Nat} {Kj:Nat->Bool} {KU:Bool} {enc:TypeId × ϗ->H} {fuel:Nat} {v:ϗ} {x:DataW H × List MemPlace} (hu:Ψ.underlying sty=some (.slice ZX))(hN:Ψ.cellsOf ZX=n)(Mu:0<n)
  (Ug:∀fuel cs x,DataW.trod enc Ψ w base Kj KU fuel ZX cs=some x->cs.length=n->∃a,cs=enc2 a/\P a) (h:DataW.trod enc Ψ w base Kj KU fuel sty [v]=some x):
  ∃L:List α,aS n enc2 w w v L/\∀a ∈ L,P a:=by
 obtain⟨s,JN,L,h1,h2,h3,h4⟩:=ns (λa cs=>cs=enc2 a/\P a) hu hN Mu Ug h;refine⟨L,⟨s,JN,h1,h2,ZR _,h3,λJX=>?_⟩,λa ha=>?_⟩
 ·obtain⟨g,off,e,hg,Mq⟩:=h4 JX;refine⟨g,off,e,hg,λi y hy=>?_⟩;obtain⟨cs,⟨rfl,_⟩,hr⟩:=Mq i y hy;exact hr
 ·obtain⟨i,hi⟩:=List.getElem?_of_mem ha;obtain⟨g,off,e,hg,Mq⟩:=h4 (λe=>by rw[e] at ha;cases ha);obtain⟨cs,⟨_,hp⟩,_⟩:=Mq i a hi;exact hp
def Av (x:OI):Prop:=(∀c ∈ x.ch,CN c.2)/\0<=x.tk/\x.tk<=Ma
theorem Bm {H:Type} {w:ϖ} {base:Nat} {Kj:Nat->Bool} {KU:Bool} {enc:TypeId × ϗ->H} {fuel:Nat} {cs:List ϗ} {x:DataW H × List MemPlace} (h:DataW.trod enc Ψ w base Kj KU fuel 80 cs=some x)(hl:cs.length=10):∃a:OI,ji w w a cs/\Av a:=by
 obtain⟨y0,y1,y2,y3,y4,y5,y6,y7,y8,y9,rfl⟩:=tA hl;obtain⟨x0,x3,x4,x5,x6,x7,x8,x9,e,-,-,-,-,-,-,-,hb,⟨f1,z1,t1⟩,⟨f2,z2,t2⟩⟩:=sL h;obtain⟨ch,Kh,KR⟩:=uO (enc2:=py) (λc=>CN c.2) Tryz.underlying77 (show Ψ.cellsOf 86=15 by kernel_rfl) ρa (λf cs y hf hc=>by obtain⟨u0,u1,u2,u3,u4,u5,u6,u7,u8,u9,u10,u11,u12,u13,u14,rfl⟩:=pQ hc;obtain⟨v0,v1,v2,v3,v4,v5,v6,v7,v8,v9,N0,LD,Oe,PP,YP,e,-,-,-,b4,b5,b6,b7,b8,b9,b10,b11,b12,-,-⟩:=pN hf;exact⟨(v0,⟨v1,v2,v3,v4,v5,v6,v7,v8,v9,N0,LD,Oe,PP,YP⟩),e,⟨b4.1,b5.1,b6.1⟩,⟨b7.1,b8.1,b9.1⟩,b10.1,b11.1,b12.1⟩) t1
 obtain⟨rl,Mz,-⟩:=uO (enc2:=pB) (λ_=>True) Tryz.underlying78 (show Ψ.cellsOf 88=9 by kernel_rfl) ρa (λf cs y hf hc=>by obtain⟨u0,u1,u2,u3,u4,u5,u6,u7,u8,rfl⟩:=wD hc;obtain⟨v0,v1,v2,v3,v4,v5,v6,v7,v8,e,-⟩:=sM hf;exact⟨⟨⟨v0,v1,v2,v3⟩,⟨v4,v5,v6,v7⟩,v8⟩,e,trivial⟩) t2
 exact⟨⟨x0,ch,rl,⟨x3,x4,x5,x6,x7,x8⟩,x9⟩,⟨y1,y2,e,Kh,Mz⟩,KR,hb⟩
theorem qz {H:Type} {w:ϖ} {base:Nat} {Kj:Nat->Bool} {KU:Bool} {enc:TypeId × ϗ->H} {r:Reach} {b0:Nat} {v:ϗ} {d:DataW H} {p:List MemPlace} (hv:Value.okWide Ψ w r b0 26 v)(h:DataW.Trod enc Ψ w base Kj KU 26 v d p):
  ∃(T Lm:Int) (u:ϗ) (L:List OI),v=φ #[ι ε T,ι ε Lm,u]/\dv w w u L/\∀x ∈ L,Av x:=by
 obtain⟨cs,rfl,Lz⟩:=okWide_struct Tryz.underlying26 hv;obtain⟨l⟩:=cs;obtain⟨c0,c1,c2,rfl⟩:=wG (l:=l) (Lz.trans (show Ψ.cellsOf 26=3 by kernel_rfl));obtain⟨fuel,hf⟩:=h;obtain⟨T,Lm,e,-,-,⟨f,y,t⟩⟩:=sN (x:=(d,p)) (show DataW.trod enc Ψ w base Kj KU fuel 26 [c0,c1,c2]=some (d,p) by simpa [Value.cells] using hf);simp at e;obtain⟨rfl,rfl⟩:=e;obtain⟨s,JN,L,rfl,h2,h3,h4⟩:=ns (λa cs=>ji w w a cs/\Av a) Tryz.underlying24 (show Ψ.cellsOf 80=10 by kernel_rfl) ρa (λf cs y hf hc=>Bm hf hc) t;refine⟨T,Lm,_,L,rfl,⟨s,JN,rfl,h2,ZR _,λi x hi=>?_⟩,λx hx=>?_⟩
 ·obtain⟨g,off,e,hg,Mq⟩:=h4 (λe=>by rw[e] at hi;simp at hi);obtain⟨cs,⟨ho,_⟩,hr⟩:=Mq i x hi;exact⟨g,off,cs,e,hg,ho,hr⟩
 ·obtain⟨i,hi⟩:=List.getElem?_of_mem hx;obtain⟨g,off,e,hg,Mq⟩:=h4 (λe=>by rw[e] at hx;cases hx);obtain⟨cs,⟨_,ho⟩,_⟩:=Mq i x hi;exact ho
end
end Go.Proofs.YtfdlemkplejdnaaGreat
