/- WholeBehind, part 43. Conditions: none. -/
import Derived.Test.YtfdlemkplejdnaaGreatA29
import Derived.Test.YtfdlemkplejdnaaGreatA38
import Derived.Test.YtfdlemkplejdnaaGreatA42
namespace Go.Proofs.YtfdlemkplejdnaaGreat
open Go.RowKit Go.Sort
open Value renaming int->ι,pointer->ψ,slice->ζ,tuple->χ,agg->φ,map->μ,bool->β
open IntKind renaming u64->υ,i64->ε,u16->ω
open Ending renaming returned->ϰ
open Go.Proofs.Tryz renaming prog->Ψ,underlying3->Θ,underlying147->Δ,underlying152->Γ,underlying202->Φ,underlying39->Ξ,underlying207->Ω
open Go renaming World->ϖ,Value->ϗ
set_option linter.unusedVariables false
set_option linter.unusedSimpArgs false
set_option maxHeartbeats 8000000
set_option maxRecDepth 100000
def fy (ids:List Int):List EV->Int
 | []=>0
 | e::r=>(if e.inn=false/\e.cls ∈ ids then e.pk.len else 0)+fy ids r
theorem gd (ids:List Int):∀a b,fy ids (a++b)=fy ids a+fy ids b
 | [],b=>by simp[fy]
 | e::r,b=>by have:=gd ids r b;simp only[List.cons_append,fy,this];exact(Int.add_assoc _ _ _).symm
theorem xa {ids:List Int} {e:EV} (h:e.inn=false):fy ids [e]=if e.cls ∈ ids then e.pk.len else 0:=by show (if e.inn=false/\e.cls ∈ ids then e.pk.len else 0)+0=_;rw[Int.add_zero];simp[h]
theorem xX (ids:List Int)(n:Int)(e:EV)(h:e.inn=true):dh ids n e=if e.cls ∈ ids then n+1 else n:=by unfold dh;simp[h]
theorem vJ (ids:List Int)(n:Int)(e:EV)(h:e.inn=false):dh ids n e=if e.cls ∈ ids then (if 0<n then n - 1 else n) else n:=by unfold dh;simp[h]
theorem gf (ids:List Int)(f t:Int):∀(a b:List EV)(q:Nat),bA ids f t q (a++b)=bA ids f t q a+bA ids f t (q+a.length) b
 | [],b,q=>by simp[bA]
 | e::r,b,q=>by have:=gf ids f t r b (q+1);simp only[List.cons_append,bA,this,mM];rw[show q+1+r.length=q+(r.length+1) by omega];exact(Int.add_assoc _ _ _).symm
theorem ng (ids:List Int)(f t:Int):∀(a:List EV)(q:Nat),(q:Int)+a.length<=f->bA ids f t q a=0
 | [],q,_=>rfl
 | e::r,q,h=>by simp only[mM] at h;have:=ng ids f t r (q+1) ρa;simp only[bA,this];rw[ZI (λg=>by have:=g.1;omega),Int.add_zero]
theorem i8 (ids:List Int)(f t:Int):∀(a:List EV)(q:Nat),t<(q:Int)->bA ids f t q a=0
 | [],q,_=>rfl
 | e::r,q,h=>by have:=i8 ids f t r (q+1) ρa;simp only[bA,this];rw[ZI (λg=>by have:=g.2.1;omega),Int.add_zero]
theorem nf (ids:List Int)(f t:Int):∀(a:List EV)(q:Nat),f<=(q:Int)->(q:Int)+a.length<=t+1->(∀e ∈ a,e.inn=false->0<e.pk.len)->bA ids f t q a=fy ids a
 | [],q,_,_,_=>rfl
 | e::r,q,h1,h2,h3=>by
  simp only[mM] at h2;have:=nf ids f t r (q+1) ρa ρa (λe he=>h3 e (by simp[he]));have h4:=h3 e ρp;simp only[bA,fy,this]
  congr 1
  by_cases g:e.inn=false/\e.cls ∈ ids
  ·rw[ZP g,ZP ⟨h1,by omega,g.1,g.2,h4 g.1⟩]
  ·rw[ZI g,ZI (λw=>g ⟨w.2.2.1,w.2.2.2.1⟩)]
theorem vj (ids:List Int)(a b c:List EV)(h:∀e ∈ b,e.inn=false->0<e.pk.len):bA ids (a.length:Int) ((a.length:Int)+b.length - 1) 0 (a++(b++c))=fy ids b:=by have e0:=ng ids (a.length:Int) ((a.length:Int)+b.length - 1) a 0 ρa;have e1:=nf ids (a.length:Int) ((a.length:Int)+b.length - 1) b (0+a.length) ρa ρa h;have e2:=i8 ids (a.length:Int) ((a.length:Int)+b.length - 1) c (0+a.length+b.length) ρa;rw[gf,gf,e0,e1,e2];omega
theorem q9 (n:Int)(a b:List EV):bZ n (a++b)=bZ n a+bZ n b:=by unfold bZ;rw[List.filter_append,ZL];omega
theorem yy {n:Int} {a:List EV} (h:∀e ∈ a,e.op<n):bZ n a=a.length:=by exact ZG (λl:List EV=>(l.length:Int)) (List.filter_eq_self.2 (λe he=>ZT (h e he)))
theorem nE {n:Int} {a:List EV} (h:∀e ∈ a,n<=e.op):bZ n a=0:=by exact ZG (λl:List EV=>(l.length:Int)) (List.filter_eq_nil_iff.2 (λe he=>by have:=h e he;rw[decide_eq_true_iff];omega))
theorem yv {L:List CD}:∀{xs:List Int} {k:Nat} {i:Int},bQ L i xs->xs.length<=k->mB k L i=xs
 | [],0,i,_,_=>rfl
 | [],k+1,i,h,_=>by have h:fc L i=none:=h;simp only[mB,h]
 | x::r,0,i,_,h=>by simp at h
 | x::r,k+1,i,⟨c,h1,h2,h3⟩,h=>by simp only[mB,h1];rw[yv h3 σL,h2]
theorem q7 {L M:List CD} (h:∀i,fc L i=fc M i):∀{xs:List Int} {i:Int},bQ L i xs->bQ M i xs
 | [],i,g=>by have g:fc L i=none:=g;show fc M i=none;rw[<- h];exact g
 | x::r,i,⟨c,h1,h2,h3⟩=>⟨c,by rw[<- h];exact h1,h2,q7 h h3⟩
theorem yw {M:List CD} {n0:Nat} (R:eY n0 M) {xs:List Int} {i:Int} (h:bQ M i xs):xs.length<=n0+1:=by
 obtain⟨rk,hr⟩:=R.rk;have Ra:∀(xs:List Int) (i:Int) (N:Nat),bQ M i xs->(∀c,fc M i=some c->rk i<=N)->xs.length<=N+1:=by
  intro xs
  induction xs with
  | nil=>intro i N _ _;simp
  | cons x r ih=>
   rintro i N ⟨c,h1,h2,h3⟩ hN;have hi:=hN c h1;cases r with
   | nil=>simp
   | cons y r=>
    obtain⟨d,k1,k2,k3⟩:=id h3;have h0:c.par≠0:=λe=>by rw[e,R.nz] at k1;cases k1
    have:=(hr i c h1).2 h0;have:=ih c.par (N - 1) h3 (λd hd=>by omega);simp only[mM] at this ⊢;omega
 exact Ra xs i n0 h (λc hc=>(hr i c hc).1)
section
variable {L M:List CD} {n0:Nat}
theorem tK (R:eY n0 M)(h0:n0<=64)(two:fK L M) {l:Int} {c:CD} {xs:List Int} (hc:fc L l=some c)(hl:c.lf=true)(hu:bQ L l xs) {k:Int} (hk:k≠0):l ∈ bG k M M↔k ∈ xs:=by
 have Yi:bQ M l xs:=q7 (λi=>two.fc i) hu;have hx:mB 70 M l=xs:=yv Yi (by have:=yw R Yi;omega);have hcM:fc M l=some c:=by rw[<- two.fc];exact hc
 unfold bG;rw[List.mem_map];constructor
 ·rintro⟨d,hd,e⟩;have g:(d.lf && (decide (k=0) || decide (k ∈ mB 70 M d.id)))=true:=(List.mem_filter.1 hd).2;rw[e,hx] at g;simp[hk] at g;exact g.2
 ·intro g;exact⟨c,List.mem_filter.2 ⟨(cG hcM).1,by show (c.lf && (decide (k=0) || decide (k ∈ mB 70 M c.id)))=true;rw[(cG hcM).2,hx];simp[hl,g]⟩,(cG hcM).2⟩
theorem wl (R:eY n0 M)(two:fK L M) {l k:Int} (h:l ∈ bG k M M):∃c,fc L l=some c/\c.lf=true:=by unfold bG at h;obtain⟨d,hd,rfl⟩:=List.mem_map.1 h;have g1:=(List.mem_filter.1 hd).1;have g2:(d.lf && (decide (k=0) || decide (k ∈ mB 70 M d.id)))=true:=(List.mem_filter.1 hd).2;refine⟨d,by rw[two.fc];exact iF R.nd d g1,?_⟩;simp at g2;exact g2.1
theorem mO (R:eY n0 M)(k:Int):(bG k M M).Nodup:=by unfold bG;exact gC _ R.nd
end
structure tH (M:List CD) (n0:Nat) (P i j m n:Int) (a b:CD):Prop where
 R:eY n0 M
 h0:n0<=64
 ha:fc M i=some a
 hb:fc M j=some b
 pa:a.par=P
 pb:b.par=P
 sa:dz a=true
 sb:dz b=true
 ma:a.l2=m
 nb:b.l2=n
structure Bh (M:List CD) (P g i j:Int) (y:YS):Prop where
 C:nJ y.s.L P g y.s.Lm
 two:fK y.s.L M
 Z:y.s.Z
 J:y.s.J P g
 ti:(y.s.e i).tot=fy (bG i M M) y.ev
 tj:(y.s.e j).tot=fy (bG j M M) y.ev
 qq:eP (bG i M M) y.ev=ed (λl=>((y.s.e l).q.length:Int)) (bG i M M)
 ln:∀e ∈ y.ev,e.inn=false->0<e.pk.len
section
variable {M:List CD} {n0:Nat} {P i j m n g op:Int} {a b:CD} {y z:YS}
theorem tH.at (S:tH M n0 P i j m n a b)(B:Bh M P g i j y):fc y.s.L i=some a/\fc y.s.L j=some b:=⟨by rw[B.two.fc];exact S.ha,by rw[B.two.fc];exact S.hb⟩
theorem tH.nz (S:tH M n0 P i j m n a b):i≠0/\j≠0:=⟨λe=>(by have:=S.ha;rw[e,S.R.nz] at this;cases this),λe=>(by have:=S.hb;rw[e,S.R.nz] at this;cases this)⟩
theorem tH.ln (S:tH M n0 P i j m n a b)(B:Bh M P g i j y):1<=m/\1<=n:=by have h1:=(B.C.lin a (cG (S.at B).1).1 S.pa S.sa).2.1.1;have h2:=(B.C.lin b (cG (S.at B).2).1 S.pb S.sb).2.1.1;rw[S.ma] at h1;rw[S.nb] at h2;exact⟨h1,h2⟩
theorem SS.J.told {s:SS} {c:Int} (J:s.J P g):({s with clk:=c}:SS).J P g:=⟨J.sp,J.zs,J.ac,J.no⟩
theorem Bh.act (S:tH M n0 P i j m n a b)(B:Bh M P g i j y)(I:y.s.Inv)(h:eP (bG i M M) y.ev≠0):i ∈ y.s.A.K P:=by
 rw[B.qq] at h;obtain⟨l,hl,hq⟩:∃l ∈ bG i M M,(y.s.e l).q≠[]:=vW λg=>h (jS λl hl=>by have:(y.s.e l).q=[]:=vW λw=>g ⟨l,hl,w⟩;show ((y.s.e l).q.length:Int)=0;rw[this];rfl)
 obtain⟨c,hc,JK⟩:=wl S.R B.two hl;obtain⟨xs,Pa⟩:=I.lok.path hc;have hix:i ∈ xs:=(tK S.R S.h0 B.two hc JK Pa.up S.nz.1).1 hl;have Oa:dz c=true:=B.C.leaf c (cG hc).1 JK;have JX:=Pa.sh (λd hd=>by rw[hc] at hd;cases hd;exact Oa);have Le:y.s.A.on l=true:=(I.on l).2 ⟨c,hc,JK,Oa,hq⟩;obtain⟨g1,_⟩:=ge (x:=0) JX (λq j _=>I.kk q j) (ZD.1 Pa.nd).1 (λ_=>.inl Le);refine(I.kk P i).2 ⟨a,(S.at B).1,S.pa,S.sa,?_⟩;by_cases e:i=l
 ·left;rw[e];exact Le
 ·right;refine g1 i ?_;cases xs with
  | nil=>cases hix
  | cons z r=>obtain⟨e2,_⟩:=JX.head;exact(ZC.1 hix).resolve_left (λw=>e (w.trans e2))
theorem Bh.put (S:tH M n0 P i j m n a b)(B:Bh M P g i j y)(O:y.Ok0) {k:Int} {p:PK} {xs:List Int} {s':SS} {c:CD} (hP:∀c,fc y.s.L k=some c->iU y.s.L k xs)(e:y.s.put y.clk k p xs=(0,s'))(F:gN y.s s' y.clk k xs p c)(It:s'.Inv):Bh M P g i j {y with s:=s',ev:=y.ev++[⟨op,true,false,y.clk,0,k,p⟩]}/\(∀b,b ∈ y.s.A.K P->b ∈ s'.A.K P)/\∀s0,kJ s0 P i j m n g y.s->kJ s0 P i j m n g s':=by
 have U:=O.inv.putS hP e P;obtain⟨hi,hj⟩:=S.at B;refine⟨⟨by show nJ s'.L P g s'.Lm;rw[F.L,F.Lm];exact B.C,by show fK s'.L M;rw[F.L];exact B.two,B.Z.put e,B.J.put O.inv O.num B.C F U It,?_,?_,?_,?_⟩,U.sub,λs0 H=>H.put B.J O.inv O.num B.C F U It hi S.pa hj S.pb S.nb (by have:=(S.ln B).1;omega)⟩
 ·show (s'.e i).tot=fy _ (y.ev++_);rw[F.tot,gd,B.ti];simp[fy]
 ·show (s'.e j).tot=fy _ (y.ev++_);rw[F.tot,gd,B.tj];simp[fy]
 ·show eP _ (y.ev++_)=ed (λl=>((s'.e l).q.length:Int)) _;rw[mP,xX _ _ _ rfl,B.qq];split
  ·rename_i hk;symm;refine fq (mO S.R i) hk (λl _ hl=>?_) ?_
   ·rw[F.q l,ZI hl]
   ·rw[F.q k,ZP rfl,ZL];simp
  ·rename_i hk;refine gL λl hl=>?_;rw[F.q l,ZI (λw=>hk (by rw[<- w];exact hl))]
 ·intro ev he;rcases ZM.1 he with h|h
  ·exact B.ln ev h
  ·rw[ZS.1 h];exact λw=>Bool.noConfusion (show true=false from w)
theorem eX.bh (hp:eX op y z)(S:tH M n0 P i j m n a b)(O:y.Ok0)(B:Bh M P g i j y):Bh M P g i j z/\(∀b,b ∈ z.s.A.K P->b ∈ y.s.A.K P)/\∀s0,kJ s0 P i j m n g y.s->i ∈ z.s.A.K P->kJ s0 P i j m n g z.s:=by
 cases hp with
 | busy hb=>exact⟨B,λ_ h=>h,λs0 H _=>H⟩
 | idle hb Jq=>exact⟨⟨B.C,B.two,B.Z,B.J.told,B.ti,B.tj,B.qq,B.ln⟩,λ_ h=>h,λs0 H _=>⟨H.act,H.run,H.tot,H.or⟩⟩
 | @pick k x c xs p r hb Jq hc hq hu=>
  obtain⟨Pa,hl,T,It,_,hp,_⟩:=O.pick Jq hc hq hu;obtain⟨hi,hj⟩:=S.at B;have U:=O.inv.tookS (now:=y.clk) (b:=x) hc hl hq Pa P;have NE:∀y' ∈ xs,∀d,fc y.s.L y'=some d->d.par=P->y' ∈ y.s.A.K P/\∀b ∈ y.s.A.K P,(y.s.e y').sh.t<=(y.s.e b).sh.t:=λy' hy d hd JW=>by have:=O.told.1.chosen_least (λj=>by show (y.s.e j).cp.t=0;rw[(B.Z j).1];rfl) (λj c hc=>B.C.real c (cG hc).1) O.clk.2.1 Jq hu y' hy d hd;rw[JW] at this;exact this
  have ht:∀k',k'≠0->(y.s.e k').tot=fy (bG k' M M) y.ev->((y.s.take y.clk k x xs).e k').tot=fy (bG k' M M) (y.ev++[⟨op,false,x,y.clk,y.clk+y.s.T*p.len,k,p⟩]):=λk' h0 h1=>by
   have hbi:=tK S.R S.h0 B.two hc hl hu h0;have e1:fy (bG k' M M) [⟨op,false,x,y.clk,y.clk+y.s.T*p.len,k,p⟩]=if k' ∈ xs then p.len else 0:=by
    rw[xa rfl];by_cases w:k' ∈ xs
    ·rw[ZP w];exact ZP (hbi.2 w)
    ·rw[ZI w];exact ZI (λv=>w (hbi.1 v))
   rw[T.tot k',gd,h1,e1];split
   ·rfl
   ·exact(Int.add_zero _).symm
  refine⟨⟨by show nJ (SS.L _) P g (SS.Lm _);rw[T.L,T.Lm];exact B.C,by show fK (SS.L _) M;rw[T.L];exact B.two,B.Z.took T,B.J.take O.inv O.num B.C T U hq ⟨c,hc⟩ NE,ht i S.nz.1 B.ti,ht j S.nz.2 B.tj,?_,?_⟩,U.sub,λs0 H N3=>H.take B.J O.inv O.num B.C T U hi S.pa S.ma hj S.pb S.nb ρa NE N3⟩
  ·show eP _ (y.ev++_)=ed (λl=>(((y.s.take y.clk k x xs).e l).q.length:Int)) _;rw[mP,vJ _ _ _ rfl,B.qq];split
   ·rename_i hk;have e1:ed (λl=>((y.s.e l).q.length:Int)) (bG i M M)=ed (λl=>(((y.s.take y.clk k x xs).e l).q.length:Int)) (bG i M M)+1:=by
     refine fq (mO S.R i) hk (λl _ hl=>?_) ?_
     ·rw[T.q l,ZI hl]
     ·rw[T.q k,ZP rfl,hq];simp
    have e2:0<=ed (λl=>(((y.s.take y.clk k x xs).e l).q.length:Int)) (bG i M M):=eM λl _=>by omega
    rw[e1];split<;>omega
   ·rename_i hk;refine gL λl hl=>?_;rw[T.q l,ZI (λw=>hk (by rw[<- w];exact hl))]
  ·intro ev he;rcases ZM.1 he with h|h
   ·exact B.ln ev h
   ·rw[ZS.1 h];intro _;show 0<p.len;omega
theorem bP.bh {stop:Int} (hr:bP op stop y z)(S:tH M n0 P i j m n a b)(O:y.Ok)(hs:stop<=4611686018427387904)(h0:y.clk<=stop)(B:Bh M P g i j y):Bh M P g i j z/\(∀b,b ∈ z.s.A.K P->b ∈ y.s.A.K P)/\∀s0,kJ s0 P i j m n g y.s->i ∈ z.s.A.K P->kJ s0 P i j m n g z.s:=by
 induction hr with
 | @done y hn=>exact⟨⟨B.C,B.two,B.Z,B.J,B.ti,B.tj,B.qq,B.ln⟩,λ_ h=>h,λs0 H _=>H⟩
 | @next y z t hn hp _ ih=>have ha:=O.at_next hs hn;obtain⟨g1,g2,_⟩:=hp.ok ha;obtain⟨k1,k2,k3⟩:=hp.bh S ha ⟨B.C,B.two,B.Z,B.J,B.ti,B.tj,B.qq,B.ln⟩;obtain⟨l1,l2,l3⟩:=ih g1 (by rw[g2];exact hn) k1;exact⟨l1,λb hb=>k2 b (l2 b hb),λs0 H hi=>l3 s0 (k3 s0 H (l2 i hi)) hi⟩
theorem jX.bh (hs:jX op y z)(S:tH M n0 P i j m n a b)(O:y.Ok)(B:Bh M P g i j y):Bh M P g i j z/\∀s0,kJ s0 P i j m n g y.s->i ∈ z.s.A.K P->kJ s0 P i j m n g z.s:=by
 cases hs with
 | nothing=>exact⟨B,λs0 H _=>H⟩
 | refused hn e IX=>
  rcases cf O.inv.ec hn e with ⟨_,rfl|⟨rfl,_⟩⟩|⟨h,_⟩
  ·exact⟨B,λs0 H _=>H⟩
  ·exact⟨⟨B.C,B.two,B.Z,B.J.told,B.ti,B.tj,B.qq,B.ln⟩,λs0 H _=>⟨H.act,H.run,H.tot,H.or⟩⟩
  ·exact ax h IX
 | @packet k p xs s' z hP e hp=>
  have I:=O.inv.put hP e;have hn:xs.Nodup\/fc y.s.L k=none:=by
   cases hc:fc y.s.L k with
   | none=>exact .inr rfl
   | some c=>exact ηM
  rcases hn with hn|hn
  ·rcases cf O.inv.ec hn e with ⟨h,_⟩|⟨_,c,F⟩
   ·exact ax rfl h
   ·have Pa:=hP c F.cls.1;have N:=F.num O.num O.inv (λy hy=>eA Pa.up y hy);have Oz:YS.Ok0 {y with s:=s',ev:=y.ev++[⟨op,true,false,y.clk,0,k,p⟩]}:=⟨I,N,⟨by show SS.clk _<=_;rw[F.clk];exact ZJ _,O.clk.2⟩,by show 1<=SS.T _/\SS.T _<=_;rw[F.T];exact O.tt,O.til⟩;obtain⟨B1,_,h2⟩:=B.put (op:=op) S O.toOk0 hP e F I;obtain⟨k1,k2,k3⟩:=hp.bh S Oz B1;exact⟨k1,λs0 H hi=>k3 s0 (h2 s0 H) hi⟩
  ·exact ηc
 | adv h0 h1 hr=>obtain⟨k1,_,k3⟩:=hr.bh S O h1 h0 B;exact⟨k1,k3⟩
theorem eX.evop (hp:eX op y z):∃l,z.ev=y.ev++l/\∀e ∈ l,e.op=op:=by
 cases hp with
 | busy hb=>exact⟨[],by simp,by simp⟩
 | idle hb Jq=>exact⟨[],by simp,by simp⟩
 | pick hb Jq hc hq hu=>exact⟨_,rfl,λe he=>by have h:=ZS.1 he;subst h;rfl⟩
theorem bP.evop {stop:Int} (hr:bP op stop y z):∃l,z.ev=y.ev++l/\∀e ∈ l,e.op=op:=by
 induction hr with
 | done hn=>exact⟨[],by simp,by simp⟩
 | next hn hp _ ih=>
  obtain⟨l1,h1,h2⟩:=hp.evop;obtain⟨l2,k1,k2⟩:=ih;refine⟨l1++l2,by rw[k1,h1,List.append_assoc],λe he=>?_⟩;rcases ZM.1 he with g|g
  ·exact h2 e g
  ·exact k2 e g
theorem jX.evop (hs:jX op y z):∃l,z.ev=y.ev++l/\∀e ∈ l,e.op=op:=by
 cases hs with
 | nothing=>exact⟨[],by simp,by simp⟩
 | refused hn e IX=>exact⟨[],by simp,by simp⟩
 | @packet k p xs s' z hP e hp=>
  obtain⟨l,h1,h2⟩:=hp.evop;refine⟨⟨op,true,false,y.clk,0,k,p⟩::l,h1.trans (List.append_assoc y.ev [_] l),λe he=>?_⟩;rcases ZC.1 he with g|g
  ·subst g;rfl
  ·exact h2 e g
 | adv h0 h1 hr=>exact hr.evop
end
def gU (h:Nat)(L:List EV):List EV:=L.take (bZ ((h:Int)+1) L).toNat
def nH (M:List CD)(i j m n g:Int)(k k2:Nat)(L:List EV):Prop:=(bA (bG j M M) (bZ ((k:Int)+1) L) (bZ ((k2:Int)+1) L - 1) 0 L*m - bA (bG i M M) (bZ ((k:Int)+1) L) (bZ ((k2:Int)+1) L - 1) 0 L*n)*65536<=m*n*(2*g+2)
theorem mg {h:Nat} {a b:List EV} (h1:∀e ∈ a,e.op<=(h:Int))(h2:∀e ∈ b,(h:Int)<e.op):bZ ((h:Int)+1) (a++b)=a.length:=by rw[q9,yy (λe he=>by have:=h1 e he;omega),nE (λe he=>by have:=h2 e he;omega)];omega
theorem wB {h:Nat} {a b:List EV} (h1:∀e ∈ a,e.op<=(h:Int))(h2:∀e ∈ b,(h:Int)<e.op):gU h (a++b)=a:=by unfold gU;rw[mg h1 h2];simp
theorem jI {h:Nat} {L l:List EV} (h2:∀e ∈ l,(h:Int)<e.op):gU h (L++l)=gU h L/\bZ ((h:Int)+1) (L++l)=bZ ((h:Int)+1) L:=by
 have e1:bZ ((h:Int)+1) (L++l)=bZ ((h:Int)+1) L:=by rw[q9,nE (a:=l) (λe he=>by have:=h2 e he;omega)];omega
 refine⟨?_,e1⟩;unfold gU;rw[e1,List.take_append_of_le_length (by have:=iy ((h:Int)+1) L;omega)]
section
variable {M:List CD} {n0:Nat} {P i j m n g op:Int} {a b:CD} {y z yk:YS}
theorem kJ.fair {k k2:Nat} {rest:List EV} (S:tH M n0 P i j m n a b)(Bk:Bh M P g i j yk)(Bz:Bh M P g i j z)(H:kJ yk.s P i j m n g z.s)(e:z.ev=yk.ev++rest)(h1:∀e ∈ yk.ev,e.op<=(k:Int))(h2:∀e ∈ rest,(k:Int)<e.op)(h3:∀e ∈ z.ev,e.op<=(k2:Int)):nH M i j m n g k k2 z.ev:=by
 have f:=H.most Bz.J Bz.C (S.at Bz).1 S.pa S.ma (S.at Bz).2 S.pb S.nb (S.ln Bz).2;have u1:bZ ((k:Int)+1) z.ev=yk.ev.length:=by rw[e];exact mg h1 h2
 have u2:bZ ((k2:Int)+1) z.ev=(yk.ev.length:Int)+rest.length:=by have:=mg (h:=k2) (b:=[]) h3 ρp;rw[ZA] at this;rw[this,e,ZL];omega
 have hl:∀e ∈ rest,e.inn=false->0<e.pk.len:=λx hx=>Bz.ln x (by rw[e];simp[hx]);have hp:∀k',bA (bG k' M M) (bZ ((k:Int)+1) z.ev) (bZ ((k2:Int)+1) z.ev - 1) 0 z.ev=fy (bG k' M M) rest:=λk'=>by rw[u1,u2];have:=vj (bG k' M M) yk.ev rest [] hl;rw[ZA,<- e] at this;exact this
 unfold nH;rw[hp i,hp j];have e1:(z.s.e i).tot - (yk.s.e i).tot=fy (bG i M M) rest:=by rw[Bz.ti,Bk.ti,e,gd];omega
 have e2:(z.s.e j).tot - (yk.s.e j).tot=fy (bG j M M) rest:=by rw[Bz.tj,Bk.tj,e,gd];omega
 rw[e1,e2] at f;exact f
theorem nH.snoc {k k2:Nat} {L l:List EV} (h:nH M i j m n g k k2 L)(hk:k<=k2)(h2:∀e ∈ l,(k2:Int)<e.op):nH M i j m n g k k2 (L++l):=by unfold nH at h ⊢;rw[(jI (h:=k) (L:=L) (λe he=>by have:=h2 e he;omega)).2,(jI (h:=k2) (L:=L) h2).2];have hr:=iy ((k2:Int)+1) L;have hh:∀ids,bA ids (bZ ((k:Int)+1) L) (bZ ((k2:Int)+1) L - 1) (0+L.length) l=0:=λids=>i8 ids _ _ l (0+L.length) ρa;rw[gf,gf,hh,hh,Int.add_zero,Int.add_zero];exact h
theorem kA.fair {y0:YS} {l:List OI} (hr:kA y0 l y)(O0:y0.Ok)(S:tH M n0 P i j m n a b)(B0:Bh M P g i j y0)(e0:y0.ev=[]):
  Bh M P g i j y/\(∀e ∈ y.ev,e.op<=(l.length:Int))/\
  (∀k,k<=l.length->∃yk rest,y.ev=yk.ev++rest/\(∀e ∈ yk.ev,e.op<=(k:Int))/\(∀e ∈ rest,(k:Int)<e.op)/\Bh M P g i j yk/\((∀h,k<=h->h<=l.length->eP (bG i M M) (gU h y.ev)≠0)->kJ yk.s P i j m n g y.s))/\
  (∀k k2,k<=k2->k2<=l.length->(∀h,k<=h->h<=k2->eP (bG i M M) (gU h y.ev)≠0)->nH M i j m n g k k2 y.ev):=by
 induction hr with
 | nil=>have no:¬eP (bG i M M) (gU 0 y0.ev)≠0:=λh=>h (by rw[e0];simp[gU,eP]);refine⟨B0,by rw[e0];simp,λk hk=>⟨y0,[],by simp,by rw[e0];simp,by simp,B0,λh=>ax (h 0 hk (ZR _)) no⟩,λk k2 h1 h2 h=>?_⟩;have h2:k2<=0:=h2;exact ax (h 0 ρa ρa) no
 | @snoc l x y z Nr hk hs hc ih=>
  obtain⟨B,Po,h3,h4⟩:=ih;have O:=(Nr.ok O0).1;obtain⟨l',e1,e2⟩:=hs.evop;obtain⟨Bz,hF⟩:=hs.bh S O B;have Oz:=(hs.ok O).1;have Lw:((l++[x]).length:Int)=(l.length:Int)+1:=ρp;have hln':(l++[x]).length=l.length+1:=ρp;have UE:∀h:Nat,h<=l.length->∀e ∈ l',(h:Int)<e.op:=λh hh e he=>by rw[e2 e he];omega
  have Wx:∀e ∈ z.ev,e.op<=((l++[x]).length:Int):=λe he=>by
   rw[e1] at he;rw[Lw];rcases ZM.1 he with g|g
   ·have:=Po e g;omega
   ·rw[e2 e g];exact ZJ _
  have cut:∀h:Nat,h<=l.length->gU h z.ev=gU h y.ev:=λh hh=>by rw[e1];exact(jI (UE h hh)).1
  have call:gU (l++[x]).length z.ev=z.ev:=by have:=wB (h:=(l++[x]).length) (a:=z.ev) (b:=[]) Wx ρp;rwa [ZA] at this
  have YA:∀k,k<=(l++[x]).length->∃yk rest,z.ev=yk.ev++rest/\(∀e ∈ yk.ev,e.op<=(k:Int))/\(∀e ∈ rest,(k:Int)<e.op)/\Bh M P g i j yk/\((∀h,k<=h->h<=(l++[x]).length->eP (bG i M M) (gU h z.ev)≠0)->kJ yk.s P i j m n g z.s):=λk hkl=>by
   by_cases PF:k<=l.length
   ·obtain⟨yk,rest,g1,g2,g3,g4,g5⟩:=h3 k PF;refine⟨yk,rest++l',by rw[e1,g1,List.append_assoc],g2,λe he=>?_,g4,λh=>?_⟩
    ·rcases ZM.1 he with g|g
     ·exact g3 e g
     ·exact UE k PF e g
    ·refine hF _ (g5 λh' w1 w2=>?_) (Bz.act S Oz.inv ?_)
     ·rw[<- cut h' w2];exact h h' w1 ρa
     ·have:=h (l++[x]).length hkl (ZR _);rwa [call] at this
   ·have hke:k=(l++[x]).length:=by omega
    subst hke;refine⟨z,[],by simp,Wx,by simp,Bz,λh=>kJ.refl (Bz.act S Oz.inv ?_)⟩;have:=h (l++[x]).length hkl (ZR _);rwa [call] at this
  refine⟨Bz,Wx,YA,λk k2 w1 w2 h=>?_⟩;by_cases PF:k2<=l.length
  ·rw[e1];refine(h4 k k2 w1 PF λh' g1 g2=>?_).snoc w1 (UE k2 PF);rw[<- cut h' ρa];exact h h' g1 g2
  ·have hke:k2=(l++[x]).length:=by omega
   subst hke;obtain⟨yk,rest,g1,g2,g3,g4,g5⟩:=YA k w1;exact kJ.fair S g4 Bz (g5 h) g1 g2 g3 Wx
theorem mV (m d n:Int):0<=kd m d n:=by
 unfold kd
 repeat' split
 all_goals omega
theorem WC.leaf {c:CD} (h:WC c=0)(hl:c.lf=true)(hr:kd c.r0 c.r1 c.r2<=1):dz c=true:=by
 have F:=WC.facts h;have h0:=mV c.r0 c.r1 c.r2;have h1:=mV c.l0 c.l1 c.l2;have Uu:kd c.r0 c.r1 c.r2=1:=ρa;unfold dz cW;refine ZT (vW λg=>?_);have St:kd c.l0 c.l1 c.l2=1:=ρa;unfold WC wr at h;split at h
 ·omega
 ·split at h
  ·omega
  ·split at h
   ·omega
   ·split at h
    ·omega
    ·omega
theorem wE {T Lm:Int} {L2:List CD} {Pn:Int->Prop} {x0:OI} {r:List OI} (two:fK L2 M)(R:eY n0 M)(h0:n0<=64)(hl:L2.length<=64)(hT:1<=T/\T<=65536)(XH:1<=Lm/\Lm<=16384)(h:eD T Lm (mz T Lm L2 Pn) (x0::r) y) {s:Int} (ha:fc M i=some a)(hb:fc M j=some b)(hp:b.par=a.par)(ka:kd a.l0 a.l1 a.l2=2)(kb:kd b.l0 b.l1 b.l2=2)(hs:1<=s)(MD:∀c ∈ M,ju a.par s c):(∀e ∈ y.ev,e.inn=false->0<e.pk.len)/\∀k k2:Nat,k<=k2->k2<=r.length->(∀h,k<=h->h<=k2->eP (bG i M M) (gU h y.ev)≠0)->nH M i j a.l2 b.l2 (up (Lm*65536) s) k k2 y.ev:=by
 obtain⟨K,C,W⟩:=two.lok R h0 hl;obtain⟨y0,JY,hr⟩:=h;rcases JY with ⟨_,_,_,rfl⟩|⟨_,rfl⟩
 ·have O0:YS.Ok ⟨fw T Lm [],0,0,[]⟩:=fw.ok mC.nil ρp kt.nil hT XH;have hE:=hr.evs O0 (by intro e he;have he:e ∈ ([]:List EV):=he;cases he);have hL:y.s.L=[]:=(hr.ok O0).2.1;have LA:y.ev=[]:=by
   cases he:y.ev with
   | nil=>rfl
   | cons e l=>obtain⟨⟨c,hc⟩,_⟩:=hE e (by rw[he];simp);rw[hL] at hc;cases hc
  exact⟨λe he=>(by rw[LA] at he;cases he),λk k2 hk h2 N3=>ax (by rw[LA];simp[gU,eP]) (N3 k (ZR _) hk)⟩
 ·have O0:YS.Ok ⟨fw T Lm L2,0,0,[]⟩:=fw.ok K two.nd C hT XH;have hm:∀c ∈ L2,c ∈ M:=λc hc=>by
   have:=K.ids c hc;rw[two.fc] at this;exact(cG this).1
  have g2:∀x:Int,cW x=true↔1<x:=λx=>by unfold cW;exact decide_eq_true_iff
  obtain⟨u1,_,u3⟩:=iN (s:=Lm*65536) (m:=s) ρa hs;have S:tH M n0 a.par i j a.l2 b.l2 a b:=⟨R,h0,ha,hb,rfl,hp,(g2 _).2 ρa,(g2 _).2 ρa,rfl,rfl⟩;have B0:Bh M a.par (up (Lm*65536) s) i j ⟨fw T Lm L2,0,0,[]⟩:=by
   refine⟨⟨u3,λc hc J7 Oa=>?_,λc hc=>?_,λc hc JK=>?_⟩,two,λj'=>⟨rfl,?_⟩,⟨λa' c _ _ hh=>Bool.noConfusion (show false=true from hh),λa' c _ _ hh=>Bool.noConfusion (show false=true from hh),λb' f'=>ax f' (by show b' ∉ ([]:List Int);simp),λ_ a' c _ _=>rfl⟩,rfl,rfl,?_,λe he=>?_⟩
   ·obtain⟨_,_,q⟩:=MD c (hm c hc);obtain⟨q1,q2⟩:=q J7 (by have:=(g2 _).1 Oa;omega);have MN:=(C c hc).2.1;refine⟨q1,⟨by omega,MN.2.2.2.2⟩,?_⟩;have:=Int.mul_le_mul_of_nonneg_right q2 u3;show 65536*Lm<=_;omega
   ·obtain⟨q,_⟩:=MD c (hm c hc);unfold SS.real cW;exact ZF ρa
   ·exact WC.leaf (W c hc).1 JK (MD c (hm c hc)).1
   ·show kd (di L2 j').u0 (di L2 j').u1 (di L2 j').u2<2;unfold di;cases hc:fc L2 j' with
    | none=>decide
    | some c=>have:=(MD c (hm c (cG hc).1)).2.1;show kd c.u0 c.u1 c.u2<2;omega
   ·show (0:Int)=ed (λl=>(([]:List PK).length:Int)) _;exact(jS λl _=>rfl).symm
   ·have he:e ∈ ([]:List EV):=he;cases he
  obtain⟨g1,_,_,g4⟩:=hr.fair O0 S B0 rfl;exact⟨g1.ln,g4⟩
end
abbrev sB (ch:List (Int × CD)):List CD:=ch.foldl (λL c=>eJ c.1 c.2 L) []
theorem mS:∀(ch:List (Int × CD))(L:List CD),(ch.foldl (λL c=>eJ c.1 c.2 L) L).length<=L.length+ch.length
 | [],L=>ZR _
 | c::r,L=>by have h1:=mS r (eJ c.1 c.2 L);have h2:=qc c.1 c.2 L;simp only[List.foldl_cons,mM];omega
structure DN (T Lm:Int) (ch:List (Int × CD)) (M:List CD) (x0:OI) (r:List OI) (y:YS):Prop where
 run:eD T Lm (mz T Lm (sB ch) (λ_=>True)) (x0::r) y
 two:fK (sB ch) M
 R:eY ch.length M
 l2:(sB ch).length<=64
 ev:y.ev.length<=2*(r.length+1)
 len:∀e ∈ y.ev,e.pk.len<=16384
theorem Fm (T Lm:Int)(hT:1<=T/\T<=65536)(XH:1<=Lm/\Lm<=16384)(x0:OI)(r:List OI)(M:List CD)(v:ϗ)(B:Nat)(w:ϖ)(G:eC w B v (x0::r))(hk:x0.k=1)(hr:∀x ∈ r,x.k≠1/\x.fine)(IS:(x0::r).length<=1000)(JG:∀c ∈ x0.ch,CN c.2)(hS:dq x0.ch [] M)(h32:x0.ch.length<=32):Calls Ψ 9 #[φ #[ι ε T,ι ε Lm,v]] w λe w'=>∃rs ev y,e=ϰ (χ #[φ #[rs,ev],Kz])/\DN T Lm x0.ch M x0 r y/\cD w' w ev y.ev/\(∃ra rn rc,rs=ζ ra rn rc)/\Below w w w':=by
 obtain⟨Jq,two,R⟩:=fK.nil.steps eY.nil ρa JG hS;rw[Nat.zero_add] at R;have Oj:(sB x0.ch).length<=64:=by have:=mS x0.ch [];simp only[List.length_nil,Nat.zero_add] at this;exact ZK this ρa
 obtain⟨K,C,W⟩:=two.lok R ρa Oj;have F:mJ w B T x0 (sB x0.ch) (λ_=>True):=by refine⟨hk,by omega,λc hc hl=>(WC.facts (W c hc).1).2.2.2.2.2.2.2.2.1 hl,K.nz,λcv Ve Tb Mb w1 hb ht=>?_⟩;have Wh:az 15 pg w1 B cv x0.ch:=Ve.belowK hb (by obtain⟨_,_,_,_,h,_⟩:=Ve;exact h);refine(AW wH Tb Mb [] T cv x0.ch B w1 ht hT ρp Wh κz Jq (λc hc=>JG c hc) ρa).mono ?_;rintro e w2 ⟨u,i,n,rfl,h1,h2⟩;exact⟨u,i,n,rfl,trivial,h1,h2⟩
 have Jo:∀y0,mz T Lm (sB x0.ch) (λ_=>True) y0->y0.Ok:=λy0 h0=>by
  rcases h0 with ⟨_,_,_,rfl⟩|⟨_,rfl⟩
  ·exact fw.ok mC.nil ρp kt.nil hT XH
  ·exact fw.ok K two.nd C hT XH
 refine(GV T Lm hT XH x0 r (sB x0.ch) (λ_=>True) v B w G F Jo IS hr).mono ?_;rintro e w' ⟨rs,ev,y,rfl,h1,h2,h3⟩;refine⟨rs,ev,y,rfl,⟨h1,two,R,Oj,by simpa using eD.len Jo h1,?_⟩,h2,h3⟩;obtain⟨y0,hs,Mn⟩:=h1;have hE:y.EVs:=Mn.evs (Jo y0 hs) τ4;exact λe he=>(hE e he).2.2
end Go.Proofs.YtfdlemkplejdnaaGreat
