/- WholeBehind, part 37. Conditions: none. -/
import Derived.Test.YtfdlemkplejdnaaGreatA34
namespace Go.Proofs.YtfdlemkplejdnaaGreat
open Go.RowKit Go.Sort
open Value renaming int->ι,pointer->ψ,slice->ζ,tuple->χ,agg->φ,map->μ,bool->β
open IntKind renaming u64->υ,i64->ε,u16->ω
open Ending renaming returned->ϰ
open Go.Proofs.Tryz renaming prog->Ψ,underlying3->Θ,underlying147->Δ,underlying152->Γ,underlying202->Φ,underlying39->Ξ,underlying207->Ω
open Go renaming World->ϖ,Value->ϗ
set_option linter.unusedVariables false
set_option linter.unusedSimpArgs false
set_option maxHeartbeats 8000000
set_option maxRecDepth 100000
def dh (ids:List Int)(n:Int)(e:EV):Int:=if e.cls ∈ ids then (if e.inn=true then n+1 else if 0<n then n - 1 else n) else n
def eP (ids:List Int)(L:List EV):Int:=L.foldl (dh ids) 0
def eG (ids:List Int):Int->List EV->List Int
 | n,[]=>[n]
 | n,e::r=>n::eG ids (dh ids n e) r
theorem ly (ids:List Int)(e:EV):∀(a:List EV)(n:Int),eG ids n (a++[e])=eG ids n a++[dh ids (a.foldl (dh ids) n) e]
 | [],n=>rfl
 | x::a,n=>by show n::eG ids (dh ids n x) (a++[e])=_;rw[ly ids e a];rfl
theorem iH (ids:List Int):∀(L:List EV)(n:Int)(k:Nat),k<=L.length->(eG ids n L)[k]?=some ((L.take k).foldl (dh ids) n)
 | [],n,k,h=>by have:k=0:=σL;subst this;rfl
 | e::r,n,0,_=>rfl
 | e::r,n,k+1,h=>by show (eG ids (dh ids n e) r)[k]?=_;rw[iH ids r _ k σL];rfl
theorem jM (ids:List Int):∀(L:List EV)(n:Int),(eG ids n L).length=L.length+1
 | [],n=>rfl
 | e::r,n=>by show (eG ids (dh ids n e) r).length+1=_;rw[jM ids r];rfl
theorem mP (ids:List Int)(a:List EV)(e:EV):eP ids (a++[e])=dh ids (eP ids a) e:=by unfold eP;rw[List.foldl_append];rfl
theorem wA (ids:List Int)(L:List EV):0<=eP ids L/\eP ids L<=L.length:=by
 have key:∀(L:List EV) (n:Int),0<=n->0<=L.foldl (dh ids) n/\L.foldl (dh ids) n<=n+L.length:=by
  intro L
  induction L with
  | nil=>intro n h;simp;exact h
  | cons e r ih=>
   intro n h;have h1:0<=dh ids n e/\dh ids n e<=n+1:=by unfold dh;split;split;omega;split<;>omega;omega
   have:=ih _ h1.1;simp only[List.foldl_cons,mM];omega
 have:=key L 0 (ZJ _);unfold eP;omega
theorem HI.one {w:ϖ} {g base:Nat} {x:Int} (h:ah w g #[ι ε x] 3)(hb:base<=g):HI w base (ζ g 1 1) [x]:=⟨by simp,.inr ⟨g,1,#[ι ε x],rfl,hb,h,ZR _,by unfold maxLen;omega,by simp,by simp⟩⟩
theorem xo (v u:ϗ)(L:List EV)(ids:List Int)(w:ϖ)(B B2:Nat)(G:az 12 mQ w B v L)(hl:L.length<=1000)(Gi:az 1 (λx:Int=>[Value.int .i64 x]) w B2 u ids)(My:ids.length<=1000):Calls Ψ 20 #[v,u] w λe w'=>∃x,e=ϰ x/\HI w' w x (eG ids 0 L)/\Below w w w':=by
 obtain⟨oa,oc,rfl,-⟩:=G.slice;refine δi ?_;clear G hl;intro n hn G hl zB;obtain⟨da,dc,rfl,-⟩:=Gi.slice;obtain⟨dn,Mu⟩:=Nq ids.length;rw[Mu] at Gi ⊢;replace Mu:=ag Mu;have zB2:B2<=w:=by obtain⟨_,_,_,_,h,_⟩:=Gi;exact h
 obtain⟨Y,hY⟩:=Nq (eG ids 0 L);rw[hY];replace hY:=ag hY;go_in;have D:=Gi;go_upto_region 2 with fail;refine Jw (θ3 (Ks (λ_=>False) w) G D) (λv=>ah v w #[Kz] 3) ρB ?_;rintro v1 Z1 ⟨F',G1,D1⟩;have Rr:=Z1.r;have H1:=HI.one Z1 (ZR w);clear Z1;go_wp2_with fail;go_loopw [5,12] (λo k wr=>∃(a b:List EV) (ys:List Int),k=ι ε (a.length:Nat)/\L=a++b/\(eG ids 0 a=ys)/\(HI wr w o ys)/\az 1 (λx:Int=>[Value.int .i64 x]) wr B2 (ζ da dn dc) ids/\az 12 mQ wr B (ζ oa n oc) L/\KO (λ_=>False) w wr) (λ_ k _=>n - (intOf k).toNat);case atStart=>exact⟨[],L,[0],rfl,rfl,rfl,ae.below H1 ρE,D1.below ρE,G1.below ρE,F'.step0 ρE⟩
 case round=>
  obtain⟨a,b,ys,rfl,IF,Jd,H0,D0,G0,IB⟩:=hrel;refine δe ?_;intro zw IK q hq;rw[hq] at IK ⊢;clear H1 D1 G1 F';obtain⟨ob,yc,rfl⟩:=ae.slice H0;obtain⟨ym,hym⟩:=Nq ys.length;rw[hym] at H0 ⊢;cases b with
  | nil=>
   refine η8 ?_;intro IJ hd;have Ke:L=a:=ρN;obtain rfl:Y=ys:=by rw[<- hY.out,<- Jd,Ke]
   change Hid _ at IK IF hq Ke Jd;go_wp2;go_ret;exact⟨_,rfl,ae.below H0 ρE,IB.toBelow.trans ρE⟩
  | cons c r=>
   refine δb ?_;intro IJ hd;have Jm:L[q]?=some c:=ρF;have Ku:c ∈ L:=ρR;have KL:q<n:=ρa;have YD:B<=wr:=σk;obtain⟨g0,II,rfl,hg,RA⟩:=G0.at Jm;have Na:g0<wr:=ρa;obtain⟨n0,Kv⟩:=Nq (eP ids a);have Wr:0<=n0/\n0<=(q:Int):=by have:=wA ids a;rw[Kv,hq] at this;exact this
   have hyq:ym=q+1:=by rw[<- hym,<- Jd,jM,hq]
   have Ql:ys[q]?=some n0:=by rw[<- Jd,iH ids a 0 q ρa,<- Kv,<- hq,List.take_length];rfl
   obtain⟨gy,oy,e9,hgy,RY⟩:=(ae.rd H0 (λ_=>rfl)).at Ql;subst e9;have Pq:ys.length<=1001:=ρa;have hqm:(q:Int)<(ym:Int):=ρa;obtain⟨z,hz⟩:=Nq (decide (c.cls ∈ ids));have hH:∀u,az 1 (λx:Int=>[Value.int .i64 x]) u B2 (ζ da dn dc) ids->CB 40 #[ζ da dn dc,ι ε c.cls] u (β z):=λu h=>by have g:=EL _ ids c.cls u B2 h My;rw[hz] at g;exact g
   have JB:=ly ids c a 0;rw[Jd,show a.foldl (dh ids) 0=n0 from Kv] at JB;have OQ:dh ids n0 c=if z=true then (if c.inn=true then n0+1 else if 0<n0 then n0 - 1 else n0) else n0:=by unfold dh;rw[<- hz];simp
   change Hid _ at IK hq IF Jm hn Jd Kv Ql hyq hz JB OQ hym;go_upto_region 4 with (fail);go_upto_region 5 with (refine Go.wpList_load_mid rfl 52 _ rfl g0 (II+q*12) rfl (mQ c) _ RA Tryz.underlying52 rfl ρh ?_;try simp only[mQ]);refine Jw (θ4 IB D0 G0 H0) (λv=>ah v wr #[ι ε c.op,β c.inn,β c.real,c.at_,c.done,ι ε c.cls,c.pk.id,ι ε c.pk.len,ι ω c.pk.h0,ι ω c.pk.h1,ι ω c.pk.h2,ι ω c.pk.h3] 52) ρB ?_;rintro v1 X1 ⟨F',D1,G1,H1⟩;replace cX:=X1.cell;replace fX:=X1.frozen;replace zX:=X1.size;have by1:v1.cell? ⟨gy,oy+q,none⟩=some (ι ε n0):=by have:=(ae.rd H1 (λ_=>rfl)).rng Ql.out 0 _ rfl;rw[Nat.mul_one] at this;exact this
   clear RY;go_wp2_with fail;refine Zc (θ5 F' D1 G1 H1 X1) ?_;rintro v2 ⟨Iz,D2,G2,H2,X2⟩;replace cX:=X2.cell;replace fX:=X2.frozen;replace zX:=X2.size;refine(hH v2 D2).mono ?_;rintro e v3 ⟨rfl,kx⟩;obtain⟨D3,G3,H3,X3,ID⟩:=Mw kx (θ5 D2 G2 H2 X2 Iz);replace cX:=X3.cell;replace fX:=X3.frozen;replace zX:=X3.size;clear kx;cases z
   ·have JQ:=ag (show eG ids 0 (a++[c])=ys++[n0] by rw[JB.out,OQ.out];simp);clear JB OQ;exact ξP
   by_cases ci:c.inn=true
   ·have JQ:=ag (show eG ids 0 (a++[c])=ys++[n0+1] by rw[JB.out,OQ.out];simp[ci]);clear JB OQ;obtain⟨n1,QQ⟩:=Nq (n0+1);have Tw:IntKind.i64.wrap (n0+1)=n1:=by rw[QQ];exact IntWalk.i64_in _ ⟨by omega,by omega⟩
    have hpos:0<n1:=ρa;rw[QQ] at JQ;have d1:c.inn=true:=ci;exact ξQ
   have d1:c.inn=false:=by simpa using ci
   by_cases c0:0<n0
   ·have d0:=ZT c0;have JQ:=ag (show eG ids 0 (a++[c])=ys++[n0 - 1] by rw[JB.out,OQ.out];simp[d1,c0]);clear JB OQ ci;obtain⟨n1,QQ⟩:=Nq (n0 - 1);have Tw:IntKind.i64.wrap (n0 - 1)=n1:=by rw[QQ];exact IntWalk.i64_in _ ⟨by omega,by omega⟩
    rw[QQ] at JQ;exact ξQ
   have d0:=ZF c0;have JQ:=ag (show eG ids 0 (a++[c])=ys++[n0] by rw[JB.out,OQ.out];simp[d1,c0]);clear JB OQ ci;exact ξP
def xV (ids:List Int)(L:List EV)(i:Nat):Prop:=eP ids (L.take i)=0/\eP ids (L.take (i+1))≠0
instance (ids:List Int)(L:List EV)(i:Nat):Decidable (xV ids L i):=by unfold xV;infer_instance
end Go.Proofs.YtfdlemkplejdnaaGreat
