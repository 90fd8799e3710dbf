/- WholeLatest, part 36. Conditions: none. -/
import Derived.Test.YtfdlemkplejdnaaGreatA34
namespace Go.Proofs.YtfdlemkplejdnaaGreat
open Go.RowKit Go.Sort
open Value renaming int->ι,pointer->ψ,slice->ζ,tuple->χ,agg->φ,map->μ,bool->β
open IntKind renaming u64->υ,i64->ε,u16->ω
open Ending renaming returned->ϰ
open Go.Proofs.Tryz renaming prog->Ψ,underlying3->Θ,underlying147->Δ,underlying152->Γ,underlying202->Φ,underlying39->Ξ,underlying207->Ω
open Go renaming World->ϖ,Value->ϗ
set_option linter.unusedVariables false
set_option linter.unusedSimpArgs false
set_option maxHeartbeats 8000000
set_option maxRecDepth 100000
def bD (id f t:Int):Nat->List EV->Int
 | _,[]=>0
 | q,c::r=>(if f<=(q:Int)/\(q:Int)<=t/\c.inn=true/\c.cls=id/\0<c.pk.len then c.pk.len else 0)+bD id f t (q+1) r
theorem Gt (v:ϗ)(L:List EV)(id f t:Int)(hc:∀c ∈ L,c.pk.len<=16384)(w:ϖ)(B:Nat)(G:aK 12 ls w B v L)(hl:L.length<=1000):
  CB 34 #[v,ι ε id,ι ε f,ι ε t] w (bD id f t 0 L):=by
 obtain⟨oa,oc,rfl,-⟩:=G.slice;refine δh ?_;clear G hl;intro n hn G hl zB;obtain⟨Y,hY⟩:=Nq (bD id f t 0 L);rw[hY];unfold CB;go_in;go_wp2_with fail;go_loopw [9,14] (λo k wr=>∃(a b:List EV) (s:Int),k=ι ε (a.length:Nat)/\o=s/\L=a++b/\s+bD id f t a.length b=Y/\(0<=s/\s<=a.length*16384)/\aK 12 ls wr B (ζ oa n oc) L/\KO (λ_=>False) w wr) (λ_ k _=>n - (intOf k).toNat);case atStart=>exact⟨[],L,0,rfl,rfl,rfl,by rw[Int.zero_add];exact hY,by simp,G.below ρE,ρK⟩
 case round=>
  obtain⟨a,b,s,rfl,rfl,Kq,hs,QV,G0,Kj⟩:=hrel;refine η7 ?_;intro zw Kv q hq;rw[hq] at Kv QV hs ⊢;have MQ:q<=n:=ρa;cases b with
  | nil=>
   refine η6 ?_;intro Ku hd;have KR:Y=s:=by rw[<- hs];exact Int.add_zero s
   subst KR;change Hid _ at Kv Kq hq hs hY;exact ξU
  | cons c r=>
   refine η8 ?_;intro Ku hd KX;have Nu:q<n:=ρa;obtain⟨g0,off,rfl,hg,RA⟩:=G0.at KX;have OU:g0<wr:=ρa;have YN:=hc c ρS;obtain⟨z,hz⟩:∃z,decide (f<=(q:Int)/\(q:Int)<=t/\c.inn=true/\c.cls=id/\0<c.pk.len)=z:=⟨_,rfl⟩;have hs':=hs;change Hid _ at Kv hq Kq KX hn hs hY hs';go_upto_region 4 with (fail);go_upto_region 5 with (refine Go.wpList_load_mid rfl 52 _ rfl g0 (off+q*12) rfl (ls c) _ RA Tryz.underlying52 rfl ρi ?_;try simp only[ls]);refine Jw (θ2 Kj G0) (λv=>ah v wr #[ι ε c.op,β c.inn,β c.real,c.at_,c.done,ι ε c.cls,c.pk.id,ι ε c.pk.len,ι ω c.pk.h0,ι ω c.pk.h1,ι ω c.pk.h2,ι ω c.pk.h3] 52) ρB ?_;rintro v1 X1 ⟨I',G1⟩;have Rr:=X1.r
   ·have NB:bD id f t q (c::r)=(if f<=(q:Int)/\(q:Int)<=t/\c.inn=true/\c.cls=id/\0<c.pk.len then c.pk.len else 0)+bD id f t (q+1) r:=rfl;replace NB:=ag NB;by_cases c0:f<=(q:Int)
    rotate_left
    ·have d0:=qF c0;have Li:z=false:=by rw[<- hz];exact qF (λh=>c0 h.1)
     exact ξT
    have d0:=qT c0;by_cases c1:(q:Int)<=t
    rotate_left
    ·have d1:=qF c1;have Li:z=false:=by rw[<- hz];exact qF (λh=>c1 h.2.1)
     exact ξT
    have d1:=qT c1;by_cases c2:c.inn=true
    rotate_left
    ·have d2:c.inn=false:=by simpa using c2
     have Li:z=false:=by rw[<- hz];exact qF (λh=>c2 h.2.2.1)
     exact ξT
    have d2:c.inn=true:=c2;by_cases c3:c.cls=id
    rotate_left
    ·have d3:(c.cls==id)=false:=qN.2 c3;have Li:z=false:=by rw[<- hz];exact qF (λh=>c3 h.2.2.2.1)
     exact ξT
    have d3:(c.cls==id)=true:=by rw[c3];exact beq_self_eq_true _
    by_cases c4:0<c.pk.len
    rotate_left
    ·have d4:=qF c4;have Li:z=false:=by rw[<- hz];exact qF (λh=>c4 h.2.2.2.2)
     exact ξT
    have d4:=qT c4;have Li:z=true:=by rw[<- hz];exact qT ⟨c0,c1,c2,c3,c4⟩
    subst Li;obtain⟨s2,K6⟩:=Nq (s+c.pk.len);have Uj:IntKind.u64.wrap c.pk.len=c.pk.len:=qZ _ ⟨by omega,by omega⟩;have XV:IntKind.u64.wrap (s+c.pk.len)=s2:=by rw[K6];exact qZ _ ⟨by omega,by omega⟩
    have hsum:s2+bD id f t (q+1) r=Y:=by rw[<- hs.out,NB.out,qP (of_decide_eq_true hz),<- K6];omega
    have hs2b:0<=s2/\s2<=q*16384+16384:=ρa;change Hid _ at hz c3 hsum K6;go_wp2;go_roundw;case rel=>exact⟨a++[c],r,s2,by rw[qL,hq.out];go_num,rfl,by rw[Kq.out];simp,by rw[qL,hq.out];exact hsum.out,by rw[qL,hq.out];simp;omega,G1.below ρE,I'.step0 ρE⟩
    case measure=>exact ξb
def dZ (ids:List Int)(n:Int)(e:EV):Int:=if e.cls ∈ ids then (if e.inn=true then n+1 else if 0<n then n - 1 else n) else n
def jw (ids:List Int)(L:List EV):Int:=L.foldl (dZ ids) 0
def eT (ids:List Int):Int->List EV->List Int
 | n,[]=>[n]
 | n,e::r=>n::eT ids (dZ ids n e) r
theorem mr (ids:List Int)(e:EV):∀(a:List EV)(n:Int),eT ids n (a++[e])=eT ids n a++[dZ ids (a.foldl (dZ ids) n) e]
 | [],n=>rfl
 | x::a,n=>by show n::eT ids (dZ ids n x) (a++[e])=_;rw[mr ids e a];rfl
theorem gm (ids:List Int):∀(L:List EV)(n:Int)(k:Nat),k<=L.length->(eT ids n L)[k]?=some ((L.take k).foldl (dZ ids) n)
 | [],n,k,h=>by have:k=0:=σ1;subst this;rfl
 | e::r,n,0,_=>rfl
 | e::r,n,k+1,h=>by show (eT ids (dZ ids n e) r)[k]?=_;rw[gm ids r _ k σ1];rfl
theorem kC (ids:List Int):∀(L:List EV)(n:Int),(eT ids n L).length=L.length+1
 | [],n=>rfl
 | e::r,n=>by show (eT ids (dZ ids n e) r).length+1=_;rw[kC ids r];rfl
theorem nJ (ids:List Int)(a:List EV)(e:EV):jw ids (a++[e])=dZ ids (jw ids a) e:=by unfold jw;rw[List.foldl_append];rfl
theorem qw (ids:List Int)(L:List EV):0<=jw ids L/\jw ids L<=L.length:=by
 have key:∀(L:List EV) (n:Int),0<=n->0<=L.foldl (dZ ids) n/\L.foldl (dZ ids) n<=n+L.length:=by
  intro L
  induction L with
  | nil=>intro n h;simp;exact h
  | cons e r ih=>
   intro n h;have h1:0<=dZ ids n e/\dZ ids n e<=n+1:=by unfold dZ;split;split;omega;split<;>omega;omega
   have:=ih _ h1.1;simp only[List.foldl_cons,mD];omega
 have:=key L 0 (qJ _);unfold jw;omega
theorem HI.one {w:ϖ} {g base:Nat} {x:Int} (h:ah w g #[ι ε x] 3)(hb:base<=g):HI w base (ζ g 1 1) [x]:=⟨by simp,.inr ⟨g,1,#[ι ε x],rfl,hb,h,qR _,by unfold maxLen;omega,by simp,by simp⟩⟩
theorem yW (v u:ϗ)(L:List EV)(ids:List Int)(w:ϖ)(B B2:Nat)(G:aK 12 ls w B v L)(hl:L.length<=1000)(Gi:aK 1 (λx:Int=>[Value.int .i64 x]) w B2 u ids)(Oa:ids.length<=1000):Calls Ψ 20 #[v,u] w λe w'=>∃x,e=ϰ x/\HI w' w x (eT ids 0 L)/\Below w w w':=by
 obtain⟨oa,oc,rfl,-⟩:=G.slice;refine δh ?_;clear G hl;intro n hn G hl zB;obtain⟨da,dc,rfl,-⟩:=Gi.slice;obtain⟨dn,Nr⟩:=Nq ids.length;rw[Nr] at Gi ⊢;replace Nr:=ag Nr;have zB2:B2<=w:=by obtain⟨_,_,_,_,h,_⟩:=Gi;exact h
 obtain⟨Y,hY⟩:=Nq (eT ids 0 L);rw[hY];replace hY:=ag hY;go_in;have D:=Gi;go_upto_region 2 with fail;refine Jw (θ3 (Ks (λ_=>False) w) G D) (λv=>ah v w #[Kz] 3) ρB ?_;rintro v1 Z1 ⟨I',G1,D1⟩;have Rr:=Z1.r;have H1:=HI.one Z1 (qR w);clear Z1;go_wp2_with fail;go_loopw [5,12] (λo k wr=>∃(a b:List EV) (ys:List Int),k=ι ε (a.length:Nat)/\L=a++b/\(eT ids 0 a=ys)/\(HI wr w o ys)/\aK 1 (λx:Int=>[Value.int .i64 x]) wr B2 (ζ da dn dc) ids/\aK 12 ls wr B (ζ oa n oc) L/\KO (λ_=>False) w wr) (λ_ k _=>n - (intOf k).toNat);case atStart=>exact⟨[],L,[0],rfl,rfl,rfl,ae.below H1 ρE,D1.below ρE,G1.below ρE,I'.step0 ρE⟩
 case round=>
  obtain⟨a,b,ys,rfl,Kq,KR,H0,D0,G0,Kj⟩:=hrel;refine η7 ?_;intro zw Kv q hq;rw[hq] at Kv ⊢;clear H1 D1 G1 I';obtain⟨ob,yc,rfl⟩:=ae.slice H0;obtain⟨ym,Ul⟩:=Nq ys.length;rw[Ul] at H0 ⊢;cases b with
  | nil=>
   refine η6 ?_;intro Ku hd;have Mi:L=a:=ρQ;obtain rfl:Y=ys:=by rw[<- hY.out,<- KR,Mi]
   change Hid _ at Kv Kq hq Mi KR;go_wp2;go_ret;exact⟨_,rfl,ae.below H0 ρE,Kj.toBelow.trans ρE⟩
  | cons c r=>
   refine η8 ?_;intro Ku hd KX;have Mu:c ∈ L:=ρS;have Nu:q<n:=ρa;have Zx:B<=wr:=τd;obtain⟨g0,off,rfl,hg,RA⟩:=G0.at KX;have OU:g0<wr:=ρa;obtain⟨n0,LQ⟩:=Nq (jw ids a);have hnr:0<=n0/\n0<=(q:Int):=by have:=qw ids a;rw[LQ,hq] at this;exact this
   have hyq:ym=q+1:=by rw[<- Ul,<- KR,kC,hq]
   have RZ:ys[q]?=some n0:=by rw[<- KR,gm ids a 0 q ρa,<- LQ,<- hq,List.take_length];rfl
   obtain⟨gy,oy,e9,hgy,RY⟩:=(ae.rd H0 (λ_=>rfl)).at RZ;subst e9;have QY:ys.length<=1001:=ρa;have hqm:(q:Int)<(ym:Int):=ρa;obtain⟨z,hz⟩:=Nq (decide (c.cls ∈ ids));have hH:∀u,aK 1 (λx:Int=>[Value.int .i64 x]) u B2 (ζ da dn dc) ids->CB 40 #[ζ da dn dc,ι ε c.cls] u (β z):=λu h=>by have g:=I3 _ ids c.cls u B2 h Oa;rw[hz] at g;exact g
   have My:=mr ids c a 0;rw[KR,show a.foldl (dZ ids) 0=n0 from LQ] at My;have Qz:dZ ids n0 c=if z=true then (if c.inn=true then n0+1 else if 0<n0 then n0 - 1 else n0) else n0:=by unfold dZ;rw[<- hz];simp
   change Hid _ at Kv hq Kq KX hn KR LQ RZ hyq hz My Qz Ul;go_upto_region 4 with (fail);go_upto_region 5 with (refine Go.wpList_load_mid rfl 52 _ rfl g0 (off+q*12) rfl (ls c) _ RA Tryz.underlying52 rfl ρi ?_;try simp only[ls]);refine Jw (θ4 Kj D0 G0 H0) (λv=>ah v wr #[ι ε c.op,β c.inn,β c.real,c.at_,c.done,ι ε c.cls,c.pk.id,ι ε c.pk.len,ι ω c.pk.h0,ι ω c.pk.h1,ι ω c.pk.h2,ι ω c.pk.h3] 52) ρB ?_;rintro v1 X1 ⟨I',D1,G1,H1⟩;replace cX:=X1.cell;replace fX:=X1.frozen;replace zX:=X1.size;have by1:v1.cell? ⟨gy,oy+q,none⟩=some (ι ε n0):=by have:=(ae.rd H1 (λ_=>rfl)).rng RZ.out 0 _ rfl;rw[Nat.mul_one] at this;exact this
   clear RY;go_wp2_with fail;refine Zc (θ5 I' D1 G1 H1 X1) ?_;rintro v2 ⟨J',D2,G2,H2,X2⟩;replace cX:=X2.cell;replace fX:=X2.frozen;replace zX:=X2.size;refine(hH v2 D2).mono ?_;rintro e v3 ⟨rfl,kx⟩;obtain⟨D3,G3,H3,X3,Kk⟩:=Mw kx (θ5 D2 G2 H2 X2 J');replace cX:=X3.cell;replace fX:=X3.frozen;replace zX:=X3.size;clear kx;cases z
   ·have Pj:=ag (show eT ids 0 (a++[c])=ys++[n0] by rw[My.out,Qz.out];simp);clear My Qz;exact ξP
   by_cases ci:c.inn=true
   ·have Pj:=ag (show eT ids 0 (a++[c])=ys++[n0+1] by rw[My.out,Qz.out];simp[ci]);clear My Qz;obtain⟨n1,Ph⟩:=Nq (n0+1);have Uj:IntKind.i64.wrap (n0+1)=n1:=by rw[Ph];exact IntWalk.i64_in _ ⟨by omega,by omega⟩
    have hpos:0<n1:=ρa;rw[Ph] at Pj;have d1:c.inn=true:=ci;exact ξQ
   have d1:c.inn=false:=by simpa using ci
   by_cases c0:0<n0
   ·have d0:=qT c0;have Pj:=ag (show eT ids 0 (a++[c])=ys++[n0 - 1] by rw[My.out,Qz.out];simp[d1,c0]);clear My Qz ci;obtain⟨n1,Ph⟩:=Nq (n0 - 1);have Uj:IntKind.i64.wrap (n0 - 1)=n1:=by rw[Ph];exact IntWalk.i64_in _ ⟨by omega,by omega⟩
    rw[Ph] at Pj;exact ξQ
   have d0:=qF c0;have Pj:=ag (show eT ids 0 (a++[c])=ys++[n0] by rw[My.out,Qz.out];simp[d1,c0]);clear My Qz ci;exact ξP
structure Ir where
 (fr tt fi la:Int)
 (op:Bool)
abbrev FH (x:Ir):List ϗ:=[ι υ x.fr,ι υ x.tt,ι ε x.fi,ι ε x.la,β x.op]
theorem xr:(Ψ.info? 99).map (λi=>(i.zero,i.size,i.bytes))=some (some (φ #[Ky,Ky,Kz,Kz,dO]),5,40):=by kernel_rfl
def cJ (ids:List Int)(L:List EV)(i:Nat):Prop:=jw ids (L.take i)=0/\jw ids (L.take (i+1))≠0
instance (ids:List Int)(L:List EV)(i:Nat):Decidable (cJ ids L i):=by unfold cJ;infer_instance
def bN (ids:List Int)(L:List EV):Nat->List (Int × Int)
 | 0=>[]
 | k+1=>bN ids L k++(match L[k]? with | some e=>if cJ ids L k then [(e.at_,(k:Int))] else [] | none=>[])
theorem kY {ids:List Int} {L:List EV} {k:Nat} {e:EV} (hi:L[k]?=some e)(hs:cJ ids L k):bN ids L (k+1)=bN ids L k++[(e.at_,(k:Int))]:=by show bN ids L k++(match L[k]? with|some e=>if cJ ids L k then [(e.at_,(k:Int))] else []|none=>[])=_;rw[hi];simp only[];rw[qP hs]
theorem mN {ids:List Int} {L:List EV} {k:Nat} {e:EV} (hi:L[k]?=some e)(hs:¬cJ ids L k):bN ids L (k+1)=bN ids L k:=by show bN ids L k++(match L[k]? with|some e=>if cJ ids L k then [(e.at_,(k:Int))] else []|none=>[])=_;rw[hi];simp only[];rw[qI hs,qA]
theorem kX {ids:List Int} {L:List EV} {i:Nat} {e:EV} (hi:L[i]?=some e)(hs:cJ ids L i):∀k,i<k->(e.at_,(i:Int)) ∈ bN ids L k
 | 0,h=>by omega
 | k+1,h=>by
  by_cases g:i<k
  ·unfold bN;exact qM.2 (.inl (kX hi hs k g))
  ·have:i=k:=by omega
   subst this;rw[kY hi hs];simp
theorem mO {ids:List Int} {L:List EV} {x:Int × Int}:∀k,x ∈ bN ids L k->∃e ∈ L,x.1=e.at_
 | 0,h=>by simp[bN] at h
 | k+1,h=>by
  unfold bN at h;rcases qM.1 h with g|g
  ·exact mO k g
  ·split at g
   ·rename_i e he;split at g
    ·simp at g;exact⟨e,List.mem_of_getElem? he,by rw[g]⟩
    ·simp at g
   ·simp at g
theorem GH (v u:ϗ)(L:List EV)(ids:List Int)(w:ϖ)(B B2:Nat)(G:aK 12 ls w B v L)(Nk:L.length<=1000)(Gi:aK 1 (λx:Int=>[Value.int .i64 x]) w B2 u ids)(Oa:ids.length<=1000):Calls Ψ 31 #[v,u] w λe w'=>∃x,e=ϰ x/\∃S,ae 99 5 FH w' w x S/\S.length<=L.length/\S.map (λs=>(s.fr,s.fi))=bN ids L L.length/\Below w w w':=by
 have hl:=Nk;obtain⟨oa,oc,rfl,-⟩:=G.slice;refine δh ?_;clear G hl;intro n hn G hl zB;go_in;have D:=Gi;go_wp2_with fail;refine Zc (θ3 (Ks (λ_=>False) w) G D) ?_;rintro v1 ⟨I',G1,D1⟩;refine(yW _ u L ids v1 B B2 G1 Nk D1 Oa).mono ?_;rintro e v2 ⟨x,rfl,HN,kx⟩;obtain⟨G2,D2,J'⟩:=Mw kx (θ3 G1 D1 I');clear kx;obtain⟨ns,VU⟩:=Nq (eT ids 0 L);have hnl:ns.length=n+1:=by rw[<- VU,kC,hn]
 rw[VU] at HN;have N2:=ae.rd HN (λ_=>rfl);obtain⟨B3,Rk⟩:=Nq v2.heap.size;have hwB:w<=B3:=by rw[<- Rk];exact J'.size
 rw[Rk] at N2;clear Rk HN D2;obtain⟨na,nc,rfl,-⟩:=N2.slice;rw[hnl] at N2 ⊢;change Hid _ at hnl VU;go_wp2_with fail;go_loopw [6,16] (λo k wr=>∃(a b:List EV) (S:List Ir),k=ι ε (a.length:Nat)/\L=a++b/\(S.map (λs=>(s.fr,s.fi))=bN ids L a.length)/\(S.length<=a.length)/\(ae 99 5 FH wr B3 o S)/\aK 1 (λx:Int=>[Value.int .i64 x]) wr B3 (ζ na (n+1) nc) ns/\aK 12 ls wr B (ζ oa n oc) L/\KO (λ_=>False) w wr) (λ_ k _=>n - (intOf k).toNat);case atStart=>exact⟨[],L,[],rfl,rfl,rfl,qR _,ae.nil _ _,N2.below ρE,G2.below ρE,J'.step0 ρE⟩
 case round=>
  obtain⟨a,b,S,rfl,Kq,hS,hSl,H0,N0,G0,Kj⟩:=hrel;refine η7 ?_;intro zw Kv q hq;rw[hq] at Kv ⊢;clear G2 J' N2;obtain⟨ob,oe,rfl⟩:=ae.slice H0;rw[hq] at hSl;cases b with
  | nil=>refine η6 ?_;intro Ku hd;have Mi:L=a:=ρQ;rw[<- hq,<- Mi,hn] at hSl;change Hid _ at Kv Kq hq Mi hS;go_wp2;go_ret;exact⟨_,rfl,S,(ae.below H0 ρE).base_le hwB,hSl,by rw[hS.out,<- Mi.out,hn],Kj.toBelow.trans ρE⟩
  | cons c r=>
   refine η8 ?_;intro Ku hd KX;have Mu:c ∈ L:=ρS;have Nu:q<n:=ρa;have Zx:B<=wr:=τd;obtain⟨g0,off,rfl,hg,RA⟩:=G0.at KX;have OU:g0<wr:=ρa;obtain⟨n0,LQ⟩:=Nq (jw ids (L.take q));obtain⟨n1,Ph⟩:=Nq (jw ids (L.take (q+1)));have NA:0<=n0:=by rw[<- LQ];exact(qw ids _).1
   have Zg:ns[q]?=some n0:=by rw[<- VU.out,gm ids L 0 q ρa];exact qG some LQ
   have hy1:ns[q+1]?=some n1:=by rw[<- VU.out,gm ids L 0 (q+1) ρa];exact qG some Ph
   obtain⟨gn,on,e9,hgn,RN⟩:=N0.at Zg;subst e9;have hwz:w.heap.size<=wr:=zw;have zB3:B3<=wr:=by obtain⟨_,_,_,_,h,_⟩:=N0;exact h
   have hgnw:gn<wr:=ρa;have p1:IntKind.i64.wrap ((q:Int)+1)=((q+1:Nat):Int):=IntWalk.i64_in _ ⟨by omega,by omega⟩;have m0:(q:Int)<((n+1:Nat):Int):=ρa;have m1:((q+1:Nat):Int)<((n+1:Nat):Int):=ρa;change Hid _ at Kv hq Kq KX hn LQ Ph Zg hy1 hS;go_upto_region 5 with (fail);go_upto_region 6 with (refine Go.wpList_load_mid rfl 52 _ rfl g0 (off+q*12) rfl (ls c) _ RA Tryz.underlying52 rfl ρi ?_;try simp only[ls]);refine Jw (θ4 Kj N0 G0 H0) (λv=>ah v wr #[ι ε c.op,β c.inn,β c.real,c.at_,c.done,ι ε c.cls,c.pk.id,ι ε c.pk.len,ι ω c.pk.h0,ι ω c.pk.h1,ι ω c.pk.h2,ι ω c.pk.h3] 52) ρB ?_;rintro v1 X1 ⟨I',N1,G1,H1⟩;replace cX:=X1.cell;replace fX:=X1.frozen;replace zX:=X1.size;have by0:v1.cell? ⟨gn,on+q,none⟩=some (ι ε n0):=by have:=N1.rng Zg.out 0 _ rfl;simpa using this
   have by1:v1.cell? ⟨gn,on+(q+1),none⟩=some (ι ε n1):=by have:=N1.rng hy1.out 0 _ rfl;simpa using this
   clear RN;by_cases c1:0<n0
   ·have d1:=qT c1;replace c1:=ag c1;go_wp2;go_roundw;case rel=>exact⟨a++[c],r,S,by rw[qL,hq.out];go_num,by rw[Kq.out];simp,by rw[hS.out,qL,hq.out];exact(mN KX.out (λhs=>by unfold cJ at hs;rw[LQ.out,Ph.out] at hs;have:=c1.out;omega)).symm,by simp only[qL,mE,hq.out];omega,ae.below H1 ρE,N1.below ρE,G1.below ρE,I'.step0 ρE⟩
    case measure=>exact ξb
   have d1:=qF c1;by_cases c2:n1=0
   ·have d2:(n1==0)=true:=by rw[c2];rfl
    replace c2:=ag c2;go_wp2;go_roundw;case rel=>exact⟨a++[c],r,S,by rw[qL,hq.out];go_num,by rw[Kq.out];simp,by rw[hS.out,qL,hq.out];exact(mN KX.out (λhs=>by unfold cJ at hs;rw[LQ.out,Ph.out] at hs;exact hs.2 c2.out)).symm,by simp only[qL,mE,hq.out];omega,ae.below H1 ρE,N1.below ρE,G1.below ρE,I'.step0 ρE⟩
    case measure=>exact ξb
   have d2:(n1==0)=false:=qN.2 c2;replace c2:=ag c2;have c1':=ag c1;clear c1;go_upto_region 8 with fail;refine Jw (θ5 I' N1 G1 H1 X1) (λv=>ah v v1 #[c.at_,Ky,ι ε q,Kz,fF] 99) ρB ?_;rintro v2 Y2 ⟨J',N2,G2,H2,X2⟩;replace cX:=X2.cell;replace fX:=X2.frozen;replace zX:=X2.size;have Rr:=Y2.r;clear by0 by1;obtain⟨W,rfl⟩:∃W:ϖ,W=wr:=⟨_,rfl⟩;go_wp2_with fail;go_loopw [40] (λk wr=>∃(j:Nat) (tt la:Int) (op:Bool),k=ι ε j/\j<=n/\ah wr v1 #[c.at_,tt,ι ε q,ι ε la,β op] 99/\ah wr W #[ι ε c.op,β c.inn,β c.real,c.at_,c.done,ι ε c.cls,c.pk.id,ι ε c.pk.len,ι ω c.pk.h0,ι ω c.pk.h1,ι ω c.pk.h2,ι ω c.pk.h3] 52/\aK 12 ls wr B (ζ (some ⟨g0,off,none⟩) n oc) L/\aK 1 (λx:Int=>[Value.int .i64 x]) wr B3 (ζ (some ⟨gn,on,none⟩) (n+1) nc) ns/\ae 99 5 FH wr B3 (ζ ob S.length oe) S/\KO (λ_=>False) w wr) (λk _=>n - (intOf k).toNat);case atStart=>exact⟨0,0,0,true,rfl,by omega,ρB,ρB,G2.below ρE,N2.below ρE,ae.below H2 ρE,J'.step0 ρE⟩
   case round=>
    have zY2:v1.heap.size<v2:=Y2.size;have nXY:W.heap.size≠v1:=by have:=X1.size;omega
    obtain⟨j,tt,la,op,rfl,hj,Y3,X3,G3,N3,H3,Kk⟩:=hrel;clear Y2 X2 G2 N2 H2 J' cX fX zX;have cX:=X3.cell;have fX:=X3.frozen;have zX:=X3.size;have Ss:=Y3.r;have z3:=Kk.size;have z3B:B3<=wr:=by obtain⟨_,_,_,_,h,_⟩:=N3;exact h
    have hB13:B3<=v1:=by obtain⟨_,_,_,_,h,_⟩:=N1;exact h
    by_cases c3:j<n
    rotate_left
    ·have d3:=df ((j:Int)<(n:Int));have hSlen:S.length<=1000:=ρa;go_wp2_with (refine au Tryz.underlying96 xr rfl (λ_=>rfl) (λ_ _ h=>by simp at h;rcases h with rfl|rfl|rfl|rfl|rfl<;>rfl) ρf ρf rfl (.tmp 69) (.tmp 71) rfl B3 (ζ ob S.length oe) S ⟨c.at_,tt,q,la,op⟩ wr #[c.at_,tt,ι ε q,ι ε la,β op] rfl ρs ρs (H3.below ρE) ρB ρa ρF ?_;intro o4 v4 H4 kx;replace kx:=kx.of_alloc;have Y4:=Y3.ko kx (λh=>ax (ae.own_ge H1 _ h.symm).2 ρa);have X4:=X3.ko kx (λh=>ae.ne_blk H3 X3 ρf h);have G4:=G3.ko kx (λy hy=>ae.notown H3 ρa);have N4:=N3.ko kx (λy hy=>ae.notown H3 ρa);have Km:KO (λ_=>False) w v4:=Kk.trans kx (by intro y hy h;exact ax h (ae.notown H3 ρa));have Vh:=Km.size;replace rY:=Y4.r;replace cX:=X4.cell;replace fX:=X4.frozen;replace zX:=X4.size);go_roundw;case rel=>exact⟨a++[c],r,S++[⟨c.at_,tt,q,la,op⟩],by rw[qL,hq.out];go_num,by rw[Kq.out];simp,by rw[List.map_append,hS.out,qL,hq.out];exact(kY KX.out (by unfold cJ;rw[LQ.out,Ph.out];exact⟨by have:=c1'.out;omega,c2.out⟩)).symm,by simp only[qL,mE,hq.out];omega,ae.below H4 ρE,N4.below ρE,G4.below ρE,Km.step0 ρE⟩
     case measure=>exact ξb
    have d3:=dt ((j:Int)<(n:Int));obtain⟨m1',hm1⟩:∃x,jw ids (L.take (j+1))=x:=⟨_,rfl⟩;have Zh:ns[j+1]?=some m1':=by rw[<- VU.out,gm ids L 0 (j+1) τ8];exact qG some hm1
    have byj:wr.cell? ⟨gn,on+(j+1),none⟩=some (ι ε m1'):=by have:=N3.rng Zh 0 _ rfl;simpa using this
    have p3:IntKind.i64.wrap ((j:Int)+1)=((j+1:Nat):Int):=IntWalk.i64_in _ ⟨by omega,by omega⟩;have m3:((j+1:Nat):Int)<((n+1:Nat):Int):=ρa;have hgn3:gn<wr:=ρa;have hg03:g0<wr:=ρa;change Hid _ at hm1 Zh;by_cases c4:q<j
    rotate_left
    ·have d4:=df ((q:Int)<(j:Int));have d4':=qF c4;go_wp2;go_roundw;case rel=>exact⟨j+1,tt,la,op,by go_num,by omega,ρB,ρB,G3.ko (F:=λx=>x=v1.heap.size) ρK σP,N3.ko (F:=λx=>x=v1.heap.size) ρK σP,ae.ko (F:=λx=>x=v1.heap.size) H3 ρK (λx _ hx e=>ax (ae.own_ge H1 _ hx.symm).2 ρa),Kk.trans (G:=λx=>x=v1.heap.size) ρK ρy⟩
     case measure=>simp[intOf] at*;omega
    have d4:=dt ((q:Int)<(j:Int));have d4':=qT c4;cases op
    ·go_wp2;go_roundw;case rel=>exact⟨j+1,tt,la,false,by go_num,by omega,ρB,ρB,G3.ko (F:=λx=>x=v1.heap.size) ρK σP,N3.ko (F:=λx=>x=v1.heap.size) ρK σP,ae.ko (F:=λx=>x=v1.heap.size) H3 ρK (λx _ hx e=>ax (ae.own_ge H1 _ hx.symm).2 ρa),Kk.trans (G:=λx=>x=v1.heap.size) ρK ρy⟩
     case measure=>simp[intOf] at*;omega
    by_cases c5:m1'=0
    rotate_left
    ·have d5:(m1'==0)=false:=qN.2 c5;replace c5:=ag c5;go_wp2;go_roundw;case rel=>exact⟨j+1,tt,la,true,by go_num,by omega,ρB,ρB,G3.ko (F:=λx=>x=v1.heap.size) ρK σP,N3.ko (F:=λx=>x=v1.heap.size) ρK σP,ae.ko (F:=λx=>x=v1.heap.size) H3 ρK (λx _ hx e=>ax (ae.own_ge H1 _ hx.symm).2 ρa),Kk.trans (G:=λx=>x=v1.heap.size) ρK ρy⟩
     case measure=>simp[intOf] at*;omega
    have d5:(m1'==0)=true:=by rw[c5];rfl
    replace c5:=ag c5;obtain⟨ej,hej⟩:∃e,L[j]?=some e:=⟨L[j]'τ8,List.getElem?_eq_getElem _⟩;have bej:wr.cell? ⟨g0,off+j*12+3,none⟩=some (ι υ ej.at_):=G3.rng hej 3 _ rfl;have mj:(j:Int)<(n:Int):=ρa;replace hej:=ag hej;go_upto_region 12 with fail;go_region
    all_goals
     go_wp2;go_roundw;case rel=>exact⟨j+1,ej.at_,j,false,by go_num,by omega,ρB,ρB,G3.ko (F:=λx=>x=v1.heap.size) ρK σP,N3.ko (F:=λx=>x=v1.heap.size) ρK σP,ae.ko (F:=λx=>x=v1.heap.size) H3 ρK (λx _ hx e=>ax (ae.own_ge H1 _ hx.symm).2 ρa),Kk.trans (G:=λx=>x=v1.heap.size) ρK ρy⟩
     case measure=>simp[intOf] at*;omega
theorem aK.take {α:Type} {n:Nat} {enc:α->List ϗ} {w:ϖ} {B m Kt k:Nat} {a:Option Addr} {L:List α} (h:aK n enc w B (ζ a m Kt) L)(hk:k<=L.length):aK n enc w B (ζ a k Kt) (L.take k):=by obtain⟨a',PF,h1,h2,h3,h5,h4⟩:=h;obtain⟨rfl,rfl,rfl⟩:=qV h1;refine⟨a,Kt,by rw[List.length_take,Nat.min_eq_left hk],by rw[List.length_take];omega,h3,λe=>⟨(h5 e).1,by rw[(h5 e).2];simp⟩,λKI=>?_⟩;obtain⟨g,off,e,hg,MF⟩:=h4 (λe=>KI (by rw[e];simp));exact⟨g,off,e,hg,λi x hi=>MF i x (by rw[List.getElem?_take] at hi;split at hi;exact hi;cases hi)⟩
theorem vM {a b:Int} (ha:0<=a)(hb:0<=b):0<=nA a b/\nA a b<=Mc:=by unfold nA;split<;>omega
theorem wh (id:Int)(t:Int)(L:List EV)(h:∀e ∈ L,0<=e.at_/\e.pk.len<=16384):∀f:Int,0<=bD id f t 0 L/\bD id f t 0 L<=L.length*16384:=by
 intro f;have key:∀(L:List EV) (q:Nat),(∀e ∈ L,0<=e.at_/\e.pk.len<=16384)->0<=bD id f t q L/\bD id f t q L<=L.length*16384:=by
  intro L
  induction L with
  | nil=>intro q _;simp[bD]
  | cons e r ih=>intro q h;have h1:=ih (q+1) (λx hx=>h x (by simp[hx]));have h2:=(h e ρp).2;unfold bD;simp only[mD];split<;>omega
 exact key L 0 h
def ip (T Lm:Int)(c:CD)(L:List EV)(leaf:Int)(at_:Nat)(x:Int × Int):Int:=nA x.1 (nA (tk c.r0 c.r1 c.r2 (bD leaf x.2 at_ 0 L*65536)) (T*Lm))
def wD (T Lm:Int)(c:CD)(L:List EV)(leaf:Int)(at_:Nat):Int:=(bN [leaf] (L.take (at_+1)) (at_+1)).foldl (λV x=>if V<ip T Lm c L leaf at_ x then ip T Lm c L leaf at_ x else V) 0
theorem vj {T Lm leaf:Int} {c:CD} {L:List EV} {at_:Nat}:∀(i:Nat)(e:EV),i<=at_->(L.take (at_+1))[i]?=some e->cJ [leaf] (L.take (at_+1)) i->nA e.at_ (nA (tk c.r0 c.r1 c.r2 (bD leaf i at_ 0 L*65536)) (T*Lm))<=wD T Lm c L leaf at_:=by
 intro i e hi he hs;have key:∀(l:List (Int × Int)) (V:Int),V<=l.foldl (λV x=>if V<ip T Lm c L leaf at_ x then ip T Lm c L leaf at_ x else V) V/\∀x ∈ l,ip T Lm c L leaf at_ x<=l.foldl (λV x=>if V<ip T Lm c L leaf at_ x then ip T Lm c L leaf at_ x else V) V:=by
  intro l
  induction l with
  | nil=>intro V;exact⟨qJ _,λx hx=>by cases hx⟩
  | cons y r ih=>
   intro V;rw[List.foldl_cons];obtain⟨h1,h2⟩:=ih (if V<ip T Lm c L leaf at_ y then ip T Lm c L leaf at_ y else V);have h3:V<=(if V<ip T Lm c L leaf at_ y then ip T Lm c L leaf at_ y else V)/\ip T Lm c L leaf at_ y<=(if V<ip T Lm c L leaf at_ y then ip T Lm c L leaf at_ y else V):=by split<;>omega
   refine⟨Int.le_trans h3.1 h1,λx hx=>?_⟩;rcases qC.1 hx with g|g
   ·rw[g];exact Int.le_trans h3.2 h1
   ·exact h2 x g
 exact(key _ 0).2 (e.at_,(i:Int)) (kX he hs (at_+1) ρa)
theorem vD (T Lm leaf:Int)(at_:Nat)(c:CD)(oa:Option Addr)(oc:Nat)(L:List EV)(w:ϖ)(B:Nat)(hT:1<=T/\T<=65536)(RP:1<=Lm/\Lm<=16384)(hc:(0<=c.r0/\c.r0<=Ma)/\(0<=c.r1/\c.r1<=Ma)/\0<=c.r2/\c.r2<=Ma)(Ny:∀e ∈ L,0<=e.at_/\e.pk.len<=16384)(G:aK 12 ls w B (ζ oa L.length oc) L)(Nk:L.length<=1000)(MF:at_<L.length)(KY:L.length<=oc):
  CB 11 #[φ #[ι ε T,ι ε Lm],φ (aH c.r0 c.r1 c.r2),ζ oa L.length oc,ι ε leaf,ι ε at_] w (wD T Lm c L leaf at_):=by
 have hl:=Nk;obtain⟨Y,hY⟩:=Nq (wD T Lm c L leaf at_);rw[hY];replace hY:=ag hY;obtain⟨n,hn⟩:=Nq L.length;rw[hn] at G hl MF KY ⊢;have zB:B<=w:=ρv;have hp:IntKind.i64.wrap ((at_:Int)+1)=((at_+1:Nat):Int):=IntWalk.i64_in _ ⟨by omega,by omega⟩;have Ub:((at_+1:Nat):Int)<=(oc:Int):=ρa;obtain⟨M,hM⟩:=Nq (L.take (at_+1));have QN:M.length=at_+1:=by rw[<- hM,List.length_take,hn];omega
 have G':=aK.take G (k:=at_+1) (by rw[hn];omega);rw[hM] at G';have hMm:∀e ∈ M,e ∈ L:=λe he=>List.mem_of_mem_take (by rw[hM];exact he);have hcb:=wh leaf at_ L Ny;obtain⟨p,PN⟩:=Nq (T*Lm);have hpb:0<=p:=by rw[<- PN];exact Int.mul_nonneg ρa ρa
 change Hid _ at hn hM;unfold CB;go_in;have P:=G';go_upto_region 2 with fail;go_wp2_with fail;refine Jc (θ3 (Ks (λ_=>False) w) G P) (λv=>ah v w #[ι ε T,ι ε Lm] 23/\ah v (w+1) (aH c.r0 c.r1 c.r2) 41/\ah v (w+1+1) #[ι ε leaf] 3) ⟨ρB,ρB,ρB⟩ ?_;rintro v1 ⟨C1,D1,Z1⟩ ⟨I',G1,P1⟩;have Rr:=θ3 C1.r D1.r Z1.r;have H1:=ae.rd (HI.one Z1 (qR _)) (λ_=>rfl);refine(GH _ _ M [leaf] v1 B _ P1 ρa H1 ρp).mono ?_;rintro e v2 ⟨x,rfl,S,HS,hSl,hSs,kx⟩;obtain⟨G2,C2,D2,J'⟩:=Mw kx (θ4 G1 C1 D1 I');clear kx Z1 H1 P P1 G';replace Rr:=θ2 C2.r D2.r;have S2:=ae.rd HS (λ_=>rfl);obtain⟨B3,Rk⟩:=Nq v2.heap.size;rw[Rk] at S2;clear Rk HS;obtain⟨sa,sc,rfl,-⟩:=S2.slice;obtain⟨m,hm⟩:=Nq S.length;rw[hm] at S2 hSl ⊢;have hfr:∀s ∈ S,0<=s.fr:=λs hs=>by have h3:(s.fr,s.fi) ∈ bN [leaf] M M.length:=(by rw[<- hSs];exact List.mem_map.2 ⟨s,hs,rfl⟩);obtain⟨e,he,h2⟩:=mO _ h3;rw[show s.fr=e.at_ from h2];exact(Ny e (hMm e he)).1
 rw[QN] at hSs;change Hid _ at hSs hMm hfr;go_wp2_with fail;go_loopw [11,23] (λo k wr=>∃(a b:List Ir) (V:Int),k=ι ε (a.length:Nat)/\S=a++b/\(o=V)/\(0<=V/\V<=Mc)/\(a.foldl (λV s=>if V<ip T Lm c L leaf at_ (s.fr,s.fi) then ip T Lm c L leaf at_ (s.fr,s.fi) else V) 0=V)/\ah wr w #[ι ε T,ι ε Lm] 23/\ah wr (w+1) (aH c.r0 c.r1 c.r2) 41/\aK 12 ls wr B (ζ oa n oc) L/\aK 5 FH wr B3 (ζ sa m sc) S/\KO (λ_=>False) w wr) (λ_ k _=>m - (intOf k).toNat);case atStart=>exact⟨[],S,0,rfl,rfl,rfl,by omega,rfl,ρB,ρB,G2.below ρE,S2.below ρE,J'.step0 ρE⟩
 case round=>
  obtain⟨a,b,V,rfl,Kq,rfl,hVb,hV,C0,D0,E0,G0,Kj⟩:=hrel;have zw:=Kj.size;have Kv:a.length+b.length=m:=τS;obtain⟨q,hq⟩:=Nq a.length;rw[hq] at Kv ⊢;clear G2 J' S2 C2 D2;have Ss:=θ2 C0.r D0.r;cases b with
  | nil=>
   have Ku:¬(q:Int)<(m:Int):=ρo;have hd:=qF Ku;have Mi:S=a:=ρQ;have hYV:Y=V:=by rw[<- hY.out,<- hV];unfold wD;rw[hM.out,<- hSs.out,Mi,List.foldl_map]
   subst hYV;change Hid _ at Kv Kq hq Mi hV;exact ξU
  | cons c' r=>
   have Ku:(q:Int)<(m:Int):=ρo;have hd:=qT Ku;have KX:S[q]?=some c':=ρI;have Mu:c' ∈ S:=ρS;have Nu:q<m:=ρa;have Zx:B3<=wr:=τd;obtain⟨g0,off,rfl,hg,RA⟩:=G0.at KX;have OU:g0<wr:=ρa;have hcf:=hfr.out c' Mu;have YO:=hcb c'.fi;obtain⟨bt,YL⟩:=Nq (bD leaf c'.fi at_ 0 L);rw[YL] at YO;obtain⟨dl,MI⟩:=Nq (nA (tk c.r0 c.r1 c.r2 (bt*65536)) p);have Uc:0<=dl/\dl<=Mc:=by rw[<- MI];exact vM (uG hc.1.1 hc.2.1.1 hc.2.2.1 (show 0<=bt*65536 by omega)).1 hpb
   obtain⟨t,ht⟩:=Nq (nA c'.fr dl);have WO:0<=t/\t<=Mc:=by rw[<- ht];exact vM hcf Uc.1
   have hCa:∀u G9,aK 12 ls u B G9 L->CB 34 #[G9,ι ε leaf,ι ε c'.fi,ι ε at_] u bt:=λu G9 h=>by have g:=Gt G9 L leaf c'.fi at_ (λe he=>(Ny e he).2) u B h Nk;rw[YL] at g;exact g
   have hDe:∀u,CB 33 #[φ #[ι ε T,ι ε Lm],φ (aH c.r0 c.r1 c.r2),bt] u dl:=λu=>by have g:=EP T Lm bt c u hT RP ρa hc;rw[PN,MI] at g;exact g
   have hTo:∀u,CB 32 #[c'.fr,dl] u t:=λu=>by have g:=GK c'.fr dl u hcf Uc.1;rw[ht] at g;exact g
   have hF:ip T Lm c L leaf at_ (c'.fr,c'.fi)=t:=by unfold ip;rw[PN,YL,MI,ht]
   change Hid _ at Kv hq Kq KX hV YL MI ht hF PN;go_upto_region 4 with (fail);go_upto_region 5 with (refine Go.wpList_load_mid rfl 99 _ rfl g0 (off+q*5) rfl (FH c') _ RA Tryz.underlying99 rfl ρi ?_;try simp only[FH]);refine jW (θ5 Kj C0 D0 E0 G0) (λv=>ah v wr #[c'.fr,c'.tt,ι ε c'.fi,ι ε c'.la,β c'.op] 99) ρB ?_;clear Rr Ss;rintro v1 X1 ⟨I',C1,D1,E1,G1⟩ Rr;have Ss:=X1.r;go_upto_region 5 with (fail);refine bR (θ6 I' C1 D1 E1 G1 X1) ?_;clear Rr Ss;rintro v2 ⟨J',C2,D2,E2,G2,X2⟩ Rr;have qC:=af C2;have qD:=af D2;have qX:=af X2;refine Wq ?_
   repeat (go_big_quiet_step ((first
     | (go_at_call 34;(with_reducible exact cD (hCa _ _ (E2.below (qW _ _ _)))))
     | (go_at_call 33;(with_reducible exact cD (hDe _)))
     | (go_at_call 32;(with_reducible exact cD (hTo _))))))
   refine bE (θ6 C2 D2 E2 G2 X2 J') ?_;clear Rr;rintro v3 ⟨C3,D3,E3,G3,X3,Kk⟩ Rr;clear qC qD qX C2 D2 E2 G2 X2;by_cases c1:V<t
   ·have d1:=qT c1;go_wp2;go_roundw;case rel=>exact⟨a++[c'],r,t,by rw[qL,hq.out];go_num,by rw[Kq.out];simp,rfl,by omega,by rw[List.foldl_append,hV.out];simp only[List.foldl_cons,List.foldl_nil,hF.out];rw[qP c1],ρB,ρB,E3.below ρE,G3.below ρE,Kk.step0 ρE⟩
    case measure=>exact ξb
   have d1:=qF c1;go_wp2;go_roundw;case rel=>exact⟨a++[c'],r,V,by rw[qL,hq.out];go_num,by rw[Kq.out];simp,rfl,by omega,by rw[List.foldl_append,hV.out];simp only[List.foldl_cons,List.foldl_nil,hF.out];rw[qI c1],ρB,ρB,E3.below ρE,G3.below ρE,Kk.step0 ρE⟩
   case measure=>exact ξb
end Go.Proofs.YtfdlemkplejdnaaGreat
