/- WholeDelay, part 39. Conditions: none. -/
import Derived.Test.YtfdlemkplejdnaaGreatA37
namespace Go.Proofs.YtfdlemkplejdnaaGreat
open Go.RowKit Go.Sort
open Value renaming int->ι,pointer->ψ,slice->ζ,tuple->χ,agg->φ,map->μ,bool->β
open IntKind renaming u64->υ,i64->ε,u16->ω
open Ending renaming returned->ϰ
open Go.Proofs.Tryz renaming prog->Ψ,underlying3->Θ,underlying147->Δ,underlying152->Γ,underlying202->Φ,underlying39->Ξ,underlying207->Ω
open Go renaming World->ϖ,Value->ϗ
set_option linter.unusedVariables false
set_option linter.unusedSimpArgs false
set_option maxHeartbeats 8000000
set_option maxRecDepth 100000
abbrev lI (x:Int × Int):List ϗ:=[ι υ x.1,ι υ x.2]
theorem vB:(Ψ.info? 64).map (λi=>(i.zero,i.size,i.bytes))=some (some (φ #[Ky,Ky]),2,16):=by kernel_rfl
def aP (id:Int)(L:List EV):List (Int × Int):=(L.filter (dU id)).map λe=>(e.at_,e.pk.len)
theorem vA (id:Int)(a:List EV)(e:EV):aP id (a++[e])=aP id a++(if dU id e=true then [(e.at_,e.pk.len)] else []):=by unfold aP;rw[List.filter_append,List.map_append];cases h:dU id e<;>simp[List.filter_cons,h]
theorem lG (id:Int)(a:List EV):(aP id a).length<=a.length:=by unfold aP;rw[px];exact ZH _ _
theorem F2 (v:ϗ)(L:List EV)(id:Int)(hc:∀c ∈ L,c.inn=true->1<=c.pk.len/\c.pk.len<=16384)(w:ϖ)(B:Nat)(G:aS 12 xF w B v L)(hl:L.length<=1000):Calls Ψ 13 #[v,ι ε id] w λe w'=>∃x,e=ϰ x/\af 64 2 lI w' w x (aP id L)/\Below w w w':=by
 obtain⟨oa,oc,rfl,-⟩:=G.slice;obtain⟨n,hn⟩:=Nq L.length;rw[hn] at G hl ⊢;have zB:B<=w:=ρv;obtain⟨Y,hY⟩:=Nq (aP id L);rw[hY];replace hY:=ag hY;go_in;go_wp2_with fail;go_loopw [5,11] (λo k wr=>∃(a b:List EV) (ys:List (Int × Int)),k=ι ε (a.length:Nat)/\L=a++b/\(aP id a=ys)/\(af 64 2 lI wr w o ys)/\aS 12 xF wr B (ζ oa n oc) L/\KO (λ_=>False) w wr) (λ_ k _=>n - (intOf k).toNat);case atStart=>exact⟨[],L,[],rfl,rfl,rfl,af.nil _ _,G.below ρE,ρK⟩
 case round=>
  obtain⟨a,b,ys,rfl,JK,Ke,H0,G0,JG⟩:=hrel;have zw:=JG.size;have JO:a.length+b.length=n:=ρy;obtain⟨q,hq⟩:=Nq a.length;rw[hq] at JO ⊢;obtain⟨ob,yc,rfl⟩:=af.slice H0;cases b with
  | nil=>
   have JM:¬(q:Int)<(n:Int):=ρn;have hd:=ZF JM;have KT:L=a:=ρL;obtain rfl:Y=ys:=by rw[<- hY.out,<- Ke,KT]
   change Hid _ at JO JK hq KT Ke;go_wp2;go_ret;exact⟨_,rfl,af.below H0 ρE,JG.toBelow.trans ρE⟩
  | cons c r=>
   have JM:(q:Int)<(n:Int):=ρn;have hd:=ZT JM;have Kd:L[q]?=some c:=ρC;have Le:c ∈ L:=ρP;have My:q<n:=ρa;have Wn:B<=wr:=σe;obtain⟨g0,off,rfl,hg,RA⟩:=G0.at Kd;have Oc:g0<wr:=ρa;have Ly:=vA id a c;rw[Ke] at Ly;have Ue:=hc c Le;have QB:ys.length<=1000:=by rw[<- Ke];have:=lG id a;omega
   change Hid _ at JO hq JK Kd hn Ke Ly;go_upto_region 4 with (fail);go_upto_region 5 with (refine Go.wpList_load_mid rfl 52 _ rfl g0 (off+q*12) rfl (xF c) _ RA Tryz.underlying52 rfl ρh ?_;try simp only[xF]);refine Jw (θ3 JG G0 H0) (λv=>ah v wr #[ι ε c.op,β c.inn,β c.real,c.at_,c.done,ι ε c.cls,c.pk.id,ι ε c.pk.len,ι ω c.pk.h0,ι ω c.pk.h1,ι ω c.pk.h2,ι ω c.pk.h3] 52) ρB ?_;rintro v1 X1 ⟨I',G1,H1⟩;replace cX:=X1.cell;replace fX:=X1.frozen;replace zX:=X1.size;by_cases c1:c.inn=true
   rotate_left
   ·have d1:c.inn=false:=by simpa using c1
    have PI:=ag (show aP id (a++[c])=ys by rw[Ly.out,ZI (by simp[dU,d1]),ZA]);clear c1 Ly Ue;go_wp2;go_roundw;case rel=>exact⟨a++[c],r,ys,by rw[ZL,hq.out];go_num,by rw[JK.out];simp,PI.out,af.below H1 ρE,G1.below ρE,I'.step0 ρE⟩
    case measure=>have:=JO.out;simp[intOf] at*;omega
   have Lc:=Ue c1;have d1:c.inn=true:=c1;by_cases c2:c.cls=id
   rotate_left
   ·have d2:(c.cls==id)=false:=ZN.2 c2;have PI:=ag (show aP id (a++[c])=ys by rw[Ly.out,ZI (by simp[dU,c2]),ZA]);clear Ly Ue;replace c2:=ag c2;go_wp2;go_roundw;case rel=>exact⟨a++[c],r,ys,by rw[ZL,hq.out];go_num,by rw[JK.out];simp,PI.out,af.below H1 ρE,G1.below ρE,I'.step0 ρE⟩
    case measure=>have:=JO.out;simp[intOf] at*;omega
   have d2:(c.cls==id)=true:=by rw[c2];exact beq_self_eq_true _
   have d3:=dt (0<c.pk.len);have d4:(0:Int)<c.pk.len:=ρa;have hw:IntKind.u64.wrap c.pk.len=c.pk.len:=ZZ _ ⟨by omega,by omega⟩;have PI:=ag (show aP id (a++[c])=ys++[(c.at_,c.pk.len)] by rw[Ly.out,ZP (fj.2 ⟨d1,c2⟩)]);clear Ly Ue;replace c2:=ag c2;go_wp2_with (refine aw Tryz.underlying56 vB rfl (λ_=>rfl) (λ_ _ h=>by simp at h;rcases h with rfl|rfl<;>rfl) ρf ρf rfl (.tmp 31) (.tmp 36) rfl w (ζ ob ys.length yc) ys (c.at_,c.pk.len) v1 #[c.at_,c.pk.len] rfl ρs ρs (H1.below ρE) ρB ρa ρJ ?_;intro o2 v2 H2 kx;replace kx:=kx.of_alloc;have G2:=G1.ko kx (λy hy=>af.notown H1 ρa);have X2:=X1.ko kx (λh=>af.ne_blk H1 X1 ρf h);have JE:KO (λ_=>False) w v2:=I'.trans kx τ6;have zk2:=JE.size;replace cX:=X2.cell;replace fX:=X2.frozen;replace zX:=X2.size);go_roundw;case rel=>exact⟨a++[c],r,ys++[(c.at_,c.pk.len)],by rw[ZL,hq.out];go_num,by rw[JK.out];simp,PI.out,af.below H2 ρE,G2.below ρE,JE.step0 ρE⟩
   case measure=>have:=JO.out;simp[intOf] at*;omega
theorem Ep {r:List (Int × Int)} (h:∀x ∈ r,0<=x.2):0<=(r.map Prod.snd).sum:=by
 induction r with
 | nil=>simp
 | cons x r ih=>have h1:=h x ρp;have h2:=ih (λy hy=>h y (by simp[hy]));simp;omega
theorem Br (v:ϗ)(L:List (Int × Int))(h0:∀c ∈ L,0<=c.2)(h2:(L.map Prod.snd).sum<=1099511627776)(w:ϖ)(B:Nat)(G:aS 2 lI w B v L)(hl:L.length<=1000):
  CB 35 #[v] w dK:=by
 obtain⟨oa,oc,rfl,-⟩:=G.slice;obtain⟨n,hn⟩:=Nq L.length;rw[hn] at G hl ⊢;have zB:B<=w:=ρv;unfold CB;go_in;go_wp2_with fail;go_loopw [3,8] (λo k wr=>∃(a b:List (Int × Int)) (s:Int),k=ι ε (a.length:Nat)/\L=a++b/\(o=s)/\((a.map Prod.snd).sum=s)/\(0<=s)/\aS 2 lI wr B (ζ oa n oc) L/\KO (λ_=>False) w wr) (λ_ k _=>n - (intOf k).toNat);case atStart=>exact⟨[],L,0,rfl,rfl,rfl,rfl,ZJ _,G.below ρE,ρK⟩
 case round=>
  obtain⟨a,b,s,rfl,JK,rfl,hs,Lx,G0,JG⟩:=hrel;have zw:=JG.size;have JO:a.length+b.length=n:=ρy;obtain⟨q,hq⟩:=Nq a.length;rw[hq] at JO ⊢;cases b with
  | nil=>have JM:¬(q:Int)<(n:Int):=ρn;have hd:=ZF JM;have KT:L=a:=ρL;change Hid _ at JO JK hq KT;go_wp2;go_ret;exact⟨rfl,JG.toBelow.trans ρE⟩
  | cons c r=>
   have JM:(q:Int)<(n:Int):=ρn;have hd:=ZT JM;have Kd:L[q]?=some c:=ρC;have Le:c ∈ L:=ρP;have My:q<n:=ρa;have Wn:B<=wr:=σe;obtain⟨g0,off,rfl,hg,RA⟩:=G0.at Kd;have Oc:g0<wr:=ρa;have KR:=h0 c Le;have Ns:0<=(r.map Prod.snd).sum:=Ep λx hx=>h0 x (by rw[JK];simp[hx]);have KZ:s+(c.2+(r.map Prod.snd).sum)<=1099511627776:=by have:=hs;rw[JK,List.map_append,List.sum_append] at h2;simp at h2;omega
   have RM:IntKind.u64.wrap (1099511627776 - s)=1099511627776 - s:=ZZ _ ⟨by omega,by omega⟩;have d1:=df (1099511627776 - s<c.2);obtain⟨s2,Ki⟩:=Nq (s+c.2);have Wg:IntKind.u64.wrap (s+c.2)=s2:=σ1;have MI:=ag (show ((a++[c]).map Prod.snd).sum=s2 by rw[List.map_append,List.sum_append,hs];simpa using Ki);have hs4:0<=s2:=ρa;change Hid _ at JO hq JK Kd hn hs Ki Ns KZ;go_upto_region 4 with (fail);go_upto_region 5 with (refine Go.wpList_load_mid rfl 64 _ rfl g0 (off+q*2) rfl (lI c) _ RA Tryz.underlying64 rfl ρh ?_;try simp only[lI]);refine Jw (θ2 JG G0) (λv=>ah v wr #[c.1,c.2] 64) ρB ?_;rintro v1 X1 ⟨I',G1⟩;have Rr:=X1.r;go_wp2;go_roundw;case rel=>exact⟨a++[c],r,s2,by rw[ZL,hq.out];go_num,by rw[JK.out];simp,rfl,MI.out,hs4,G1.below ρE,I'.step0 ρE⟩
   case measure=>have:=JO.out;simp[intOf] at*;omega
def nJ (L:List (Int × Int))(i j:Nat):Int:=(((L.take j).drop i).map Prod.snd).sum
theorem tQ (L:List (Int × Int)) {i j:Nat} (h:j<=i):nJ L i j=0:=by unfold nJ;rw[List.drop_eq_nil_of_le (by rw[List.length_take];omega)];rfl
theorem yY {L:List (Int × Int)} {i j:Nat} {d:Int × Int} (h:i<=j)(hd:L[j]?=some d):nJ L i (j+1)=nJ L i j+d.2:=by have hl:=(List.getElem?_eq_some_iff.1 hd).1;unfold nJ;rw[List.take_add_one,hd,List.drop_append_of_le_length (by rw[List.length_take];omega)];simp
theorem BU (L:List (Int × Int))(h:∀x ∈ L,0<=x.2):∀{K:List (Int × Int)},K.Sublist L->0<=(K.map Prod.snd).sum/\(K.map Prod.snd).sum<=(L.map Prod.snd).sum:=by
 intro K s
 induction s with
 | slnil=>simp
 | cons a s ih=>have h1:=h a ρp;have h2:=ih (λx hx=>h x (by simp[hx]));simp;omega
 | cons_cons a s ih=>have h1:=h a ρp;have h2:=ih (λx hx=>h x (by simp[hx]));simp;omega
theorem uZ {L:List (Int × Int)} (h:∀x ∈ L,0<=x.2)(i j:Nat):0<=nJ L i j/\nJ L i j<=(L.map Prod.snd).sum:=
 BU L h ((List.drop_sublist i _).trans (List.take_sublist j L))
def eu (m:Int)(L:List (Int × Int))(i j:Nat)(M:Int):Prop:=∀(k:Nat)(c d:Int × Int),i<=k->k<j->L[i]?=some c->L[k]?=some d->nJ L i (k+1)*65536 - m*(d.1 - c.1)<=M
theorem eu.mono {m:Int} {L:List (Int × Int)} {i j:Nat} {M M':Int} (h:eu m L i j M)(g:M<=M'):eu m L i j M':=λk c d h1 h2 h3 h4=>Int.le_trans (h k c d h1 h2 h3 h4) g
theorem eu.step {m:Int} {L:List (Int × Int)} {i j:Nat} {M:Int} {c d:Int × Int} (h:eu m L i j M)(hc:L[i]?=some c)(hd:L[j]?=some d)(g:i<=j->nJ L i (j+1)*65536 - m*(d.1 - c.1)<=M):eu m L i (j+1) M:=λk c' d' h1 h2 h3 h4=>by
 rcases Nat.lt_or_ge k j with hk|hk
 ·exact h k c' d' h1 hk h3 h4
 ·have:k=j:=by omega
  subst this;cases hc.symm.trans h3;cases hd.symm.trans h4
  exact g h1
def vL (m:Int)(L:List (Int × Int))(x:Int):Prop:=∃(i k:Nat)(c d:Int × Int),i<=k/\L[i]?=some c/\L[k]?=some d/\x=nJ L i (k+1)*65536 - m*(d.1 - c.1)
def eG (m:Int)(L:List (Int × Int))(M:Int):Prop:=0<=M/\(∀x,vL m L x->x<=M)/\(M=0\/vL m L M)
theorem eG.one {m:Int} {L:List (Int × Int)} {M N:Int} (h:eG m L M)(g:eG m L N):M=N:=by
 obtain⟨h1,h2,h3⟩:=h;obtain⟨g1,g2,g3⟩:=g;have a:M<=N:=by rcases h3 with h3|h3;omega;exact g2 _ h3
 have b:N<=M:=by rcases g3 with g3|g3;omega;exact h2 _ g3
 omega
theorem Bj (l:List Int):∃M,0<=M/\(∀x ∈ l,x<=M)/\(M=0\/M ∈ l):=by
 induction l with
 | nil=>exact⟨0,ZJ _,λx hx=>(by cases hx),.inl rfl⟩
 | cons y r ih=>
  obtain⟨M,h1,h2,h3⟩:=ih;by_cases h:y<=M
  ·exact⟨M,h1,λx hx=>(ZC.1 hx).elim (λe=>by omega) (h2 x),h3.imp id λg=>sA _ g⟩
  ·exact⟨y,by omega,λx hx=>(ZC.1 hx).elim (λe=>by omega) (λg=>by have:=h2 x g;omega),.inr ρp⟩
theorem eG.ex (m:Int)(L:List (Int × Int)):∃M,eG m L M:=by
 obtain⟨M,h1,h2,h3⟩:=Bj ((List.range L.length).flatMap λi=>(List.range L.length).filterMap λk=>if i<=k then some (nJ L i (k+1)*65536 - m*((L.getD k (0,0)).1 - (L.getD i (0,0)).1)) else none);refine⟨M,h1,λx hx=>h2 x ?_,h3.imp id λhx=>?_⟩
 ·obtain⟨i,k,c,d,hik,hc,hd,rfl⟩:=hx;obtain⟨hi,rfl⟩:=List.getElem?_eq_some_iff.1 hc;obtain⟨hk,rfl⟩:=List.getElem?_eq_some_iff.1 hd;refine List.mem_flatMap.2 ⟨i,List.mem_range.2 hi,List.mem_filterMap.2 ⟨k,List.mem_range.2 hk,?_⟩⟩;rw[ZP hik];simp[hi,hk]
 ·obtain⟨i,hi,hx⟩:=List.mem_flatMap.1 hx;obtain⟨k,hk,hx⟩:=List.mem_filterMap.1 hx;have hi:=List.mem_range.1 hi;have hk:=List.mem_range.1 hk;by_cases hik:i<=k
  ·rw[ZP hik] at hx;refine⟨i,k,L[i],L[k],hik,List.getElem?_eq_getElem hi,List.getElem?_eq_getElem hk,?_⟩;have:=Option.some.inj hx;simp[hi,hk] at this;exact this.symm
  ·rw[ZI hik] at hx;cases hx
theorem yv (m:Int)(hm:1<=m/\m<=Md)(v:ϗ)(L:List (Int × Int))(Mo:Int)(hIM:eG m L Mo)(hs:∀(i k:Nat) c d,i<=k->L[i]?=some c->L[k]?=some d->c.1<=d.1)(ht:∀c ∈ L,0<=c.1/\c.1<=Mb)(h0:∀c ∈ L,0<=c.2)(h2:(L.map Prod.snd).sum<=1099511627776)(w:ϖ)(B:Nat)(G:aS 2 lI w B v L)(hl:L.length<=1000):
  CB 16 #[m,v] w (up Mo 65536):=by
 obtain⟨oa,oc,rfl,-⟩:=G.slice;refine δf ?_;clear G hl;intro n hn G hl zB;obtain⟨S,hS⟩:=Nq ((L.map Prod.snd).sum);have Xq:=uZ h0;rw[hS] at h2;have hS0:0<=S:=by have:=Xq 0 0;rw[hS] at this;omega
 replace hS:=ag hS;replace h0:=ag h0;replace Xq:=ag Xq;replace hs:=ag hs;unfold CB;go_in;go_wp2_with fail;go_loopw [16] (fun  k wr=>∃(a b:List (Int × Int)) (mo:Int),k=ι ε (a.length:Nat)/\L=a++b/\(0<=mo/\mo<=S*65536)/\(∀i,i<a.length->eu m L i L.length mo)/\(mo=0\/vL m L mo)/\ah wr w #[(aX (mo)),(bV (mo)),(ij (mo)),(jg (mo))] 70/\aS 2 lI wr B (ζ oa n oc) L/\KO (λ_=>False) w wr) (λk _=>n - (intOf k).toNat);case atStart=>exact⟨[],L,0,rfl,rfl,by omega,λi h=>az h (Nat.not_lt_zero i),.inl rfl,ρu,G.below ρE,ρK⟩
 case round=>
  obtain⟨a,b,mo,rfl,JK,VU,Tf,TZ,M0,G0,JG⟩:=hrel;refine δa ?_;intro zw JO q hq;rw[hq] at JO ⊢;have Rr:=M0.r;cases b with
  | nil=>
   refine η4 ?_;intro JM hd;have KT:L=a:=ρL;have J9:∀x,vL m L x->x<=mo:=λx ⟨i,k,c,d,h1,h3,h4,e⟩=>by rw[e];exact Tf i (by rw[<- KT];exact(List.getElem?_eq_some_iff.1 h3).1) k c d h1 (List.getElem?_eq_some_iff.1 h4).1 h3 h4
   obtain rfl:mo=Mo:=eG.one ⟨VU.1,J9,TZ⟩ hIM;obtain⟨Bv,VS⟩:=Nq (up mo 65536);have Ua:mo<=Bv*65536/\0<=Bv/\Bv<=S:=by rw[<- VS];unfold up;split<;>omega
   have bf:ai mo:=ρz;have hCe:sj mo 65536 Bv 0:=.inr (.inr ⟨by omega,by rw[VS];unfold hi;omega,by rw[VS];unfold lo;omega,rfl⟩);have Xd:∀v,(Instr.field 104 (φ #[Bv,Kz]) 0).run Ψ v=.ok (ι υ Bv) v:=λ_=>by kernel_rfl
   clear J9;replace TZ:=ag TZ;replace hIM:=ag hIM;replace hCe:=ag hCe;replace VS:=ag VS;clear Tf;replace JO:=ag JO;replace JK:=ag JK;replace hq:=ag hq;replace KT:=ag KT;go_wp2_with fail;refine(uV mo 65536 Bv 0 _ bf ρa hCe.out).mono ?_;rintro e v1 ⟨rfl,kx⟩;have I':Below wr wr v1:=Below.trans ρE kx;have zv:=I'.size;go_wp2;go_ret;exact⟨by rw[VS.out];rfl,JG.toBelow.trans ((I'.trans ρE).mono zw)⟩
  | cons c r=>
   refine δD ?_;intro JM hd Kd;have Le:c ∈ L:=ρP;have My:q<n:=ρa;have Wn:B<=wr:=σe;obtain⟨g0,off,rfl,hg,RA⟩:=G0.at Kd;have Oc:g0<wr:=ρa;have Tf:=ag (show ∀i,i<q->eu m L i L.length mo by rw[<- hq];exact Tf);have hWw:w.heap.size<wr:=M0.size;have uq:=ag hq;have uxs:=ag JK;have uab:=ag JO;have uc:=ag Kd;clear hq JK JO Kd;obtain⟨ua,rfl⟩:∃x,x=a:=⟨_,rfl⟩;obtain⟨ur,rfl⟩:∃x,x=r:=⟨_,rfl⟩;replace hn:=ag hn;replace TZ:=ag TZ;go_upto_region 4 with (fail);go_upto_region 5 with (refine Go.wpList_load_mid rfl 64 _ rfl g0 (off+q*2) rfl (lI c) _ RA Tryz.underlying64 rfl ρh ?_;try simp only[lI]);refine jf (θ3 JG M0 G0) (λv=>ah v wr #[c.1,c.2] 64) ρB ?_;clear Rr;rintro v1 X1 ⟨I',M1,G1⟩ Rr;have Ss:=X1.r;clear JM hd RA;obtain⟨qo,rfl⟩:∃x,x=q:=⟨_,rfl⟩;obtain⟨W,rfl⟩:∃W,W=wr:=⟨_,rfl⟩;go_wp2_with fail;go_loopw [8,23] (λo k wr=>∃(a b:List (Int × Int)) (s:Int) (mi:Int),k=ι ε (a.length:Nat)/\L=a++b/\(o=s)/\(nJ L qo a.length=s)/\(0<=mi/\mi<=S*65536)/\(∀i,i<qo->eu m L i L.length mi)/\(eu m L qo a.length mi)/\(mi=0\/vL m L mi)/\ah wr w #[(aX (mi)),(bV (mi)),(ij (mi)),(jg (mi))] 70/\ah wr W #[c.1,c.2] 64/\aS 2 lI wr B (ζ (some ⟨g0,off,none⟩) n oc) L/\KO (λ_=>False) w wr) (λ_ k _=>n - (intOf k).toNat);case atStart=>exact⟨[],L,0,mo,rfl,rfl,rfl,tQ L (Nat.zero_le _),VU,Tf.out,λk _ _ _ h=>az h (Nat.not_lt_zero k),TZ.out,ρB,ρB,G1.below ρE,I'.step0 ρE⟩
   case round=>
    obtain⟨a,b,s,mi,rfl,JK,rfl,hss,hMi,Tf,WT,TZ,M0,X0,G0,JG⟩:=hrel;have zw:=JG.size;have JO:a.length+b.length=n:=σR;obtain⟨q,hq⟩:=Nq a.length;rw[hq] at JO ⊢;clear M1 G1 X1 I' VU;replace Ss:=θ2 M0.r X0.r;cases b with
    | nil=>
     refine η4 ?_;intro JM hd;have KT:L=a:=ρL;have hGi2:eu m L qo L.length mi:=by have h:=WT;rw[<- KT] at h;exact h
     have hGo2:∀i,i<(ua++[c]).length->eu m L i L.length mi:=λi hi=>by
      rw[ZL,uq.out] at hi;rcases Nat.lt_or_ge i qo with h|h
      ·exact Tf i h
      ·have:i=qo:=by simp at hi;omega
       subst this;exact hGi2
     replace hGo2:=ag hGo2;clear Tf WT hGi2;replace JO:=ag JO;replace JK:=ag JK;replace hq:=ag hq;replace KT:=ag KT;go_wp2;go_roundw;case rel=>exact⟨ua++[c],ur,mi,by rw[ZL,uq.out];go_num,by rw[uxs.out];simp,hMi,hGo2.out,TZ,ρB,G0.below ρE,JG.step0 ρE⟩
     case measure=>have:=uab.out;simp[intOf] at*;omega
    | cons d r=>
     refine η5 ?_;intro JM hd;have Kd:L[q]?=some d:=ρC;have Le:d ∈ L:=ρP;have My:q<n:=ρa;have Wn:B<=wr:=σe;have RA:=G0.rng Kd;have Oc:g0<wr:=ρa;rw[hq] at hss WT;have OR:=Kd;have sr2:=Xq.out qo (q+1);rw[hS.out] at sr2;replace JO:=ag JO;replace hq:=ag hq;replace JK:=ag JK;replace Kd:=ag Kd;replace OR:=ag OR;replace hss:=ag hss;replace Tf:=ag Tf;replace WT:=ag WT;replace TZ:=ag TZ;go_upto_region 8 with (fail);go_upto_region 9 with (refine Go.wpList_load_mid rfl 64 _ rfl g0 (off+q*2) rfl (lI d) _ RA Tryz.underlying64 rfl ρh ?_;try simp only[lI]);refine jf (θ4 JG M0 X0 G0) (λv=>ah v wr #[d.1,d.2] 64) ρB ?_;clear Rr Ss;rintro v1 Z1 ⟨I',M1,X1,G1⟩ Rr;have Ss:=Z1.r;by_cases cq:q<qo
     ·have d1:=dt ((q:Int)<(qo:Int));have d1':=ZT cq;have hsq:=ag (show nJ L qo (q+1)=s by rw[<- hss.out,tQ L ρa,tQ L ρa]);have hg:=ag (show eu m L qo (q+1) mi from WT.out.step uc.out OR.out λh=>by omega);clear sr2;go_wp2;go_roundw;case rel=>exact⟨a++[d],r,s,mi,by rw[ZL,hq.out];go_num,by rw[JK.out];simp,rfl,by rw[ZL,hq.out];exact hsq.out,hMi,Tf.out,by rw[ZL,hq.out];exact hg.out,TZ.out,ρB,ρB,G1.below ρE,I'.step0 ρE⟩
      case measure=>exact ξc
     have d1:=df ((q:Int)<(qo:Int));have d1':=ZF cq;have Ln:=yY (i:=qo) ρa OR.out;rw[hss.out] at Ln;obtain⟨s2,Ki⟩:=Nq (s+d.2);rw[Ki] at Ln;rw[Ln] at sr2;have Pe:=hs.out qo q c d ρa uc.out OR.out;have tc:=ht c (List.mem_of_getElem? uc.out);have td:=ht d (List.mem_of_getElem? OR.out);have RM:IntKind.u64.wrap (s+d.2)=s2:=σ1;obtain⟨x1,KA⟩:=Nq (d.1 - c.1);have Wg:IntKind.u64.wrap (d.1 - c.1)=x1:=by rw[KA];exact ZZ _ ⟨by omega,by omega⟩
     obtain⟨H,hH⟩:=Nq (m*x1);have hHr:0<=H/\H<=Md*Mb:=by rw[<- hH];exact⟨Int.mul_nonneg ρa ρa,Int.mul_le_mul hm.2 ρa ρa ρa⟩
     obtain⟨N,hN⟩:=Nq (s2*65536);have hNr:0<=N/\N<=S*65536:=ρa;have SP:ai H:=ρz;have Qm:ai N:=ρz;have M128:ai mi:=ρz;have Xf:nJ L qo (q+1)*65536 - m*(d.1 - c.1)=N - H:=by rw[Ln,KA,hH,hN]
     have hsq:=ag Ln;have hU:∀u,CB 37 #[s2] u (nv N):=λu=>by have h:=yx s2 u ⟨by omega,by omega⟩;rw[hN] at h;exact h
     have mr:0<=m/\m<=Ma:=ρa;have xr:0<=x1/\x1<=Ma:=ρa;replace Xf:=ag Xf;replace KA:=ag KA;replace Ln:=ag Ln;replace hH:=ag hH;clear Pe tc td;go_wp2_with fail;refine Zc (θ5 I' M1 X1 G1 Z1) ?_;rintro v2 ⟨JE,M2,X2,G2,Z2⟩;refine(jD m x1 H _ mr xr hH.out).mono ?_;rintro e v3 ⟨rfl,kx⟩;clear Rr Ss;obtain⟨⟨M3,X3,G3,Z3,JI⟩,Rr⟩:=Mx kx (θ5 M2 X2 G2 Z2 JE);clear kx;go_wp2_with fail;refine pw (θ5 JI M3 X3 G3 Z3) (λv=>ah v v3 #[(aX (H)),(bV (H)),(ij (H)),(jg (H))] 70) ρB ?_;clear Rr;rintro v4 Y4 ⟨JJ,M4,X4,G4,Z4⟩ Rr;have Ss:=Y4.r;refine(hU _).mono ?_;rintro e v5 ⟨rfl,kx⟩;clear Rr Ss;obtain⟨⟨M5,X5,G5,Z5,Y5,JP⟩,Rr⟩:=Mx kx (θ6 M4 X4 G4 Z4 Y4 JJ);clear kx;go_upto_region 13 with (fail);refine jf (θ6 JP M5 X5 G5 Z5 Y5) (λv=>ah v v5 #[(aX (N)),(bV (N)),(ij (N)),(jg (N))] 70) ρB ?_;clear Rr;rintro v6 T6 ⟨JT,M6,X6,G6,Z6,Y6⟩ Rr;have Ss:=T6.r;replace hN:=ag hN;clear hU;by_cases cA:H<N
     rotate_left
     ·have d2:=ZF cA;have hg:=ag (show eu m L qo (q+1) mi from WT.out.step uc.out OR.out λ_=>by rw[Xf.out];omega);replace cA:=ag cA;refine bK (θ7 JT M6 X6 G6 Z6 Y6 T6) ?_;clear Rr Ss;rintro v7 ⟨J7,M7,X7,G7,Z7,Y7,T7⟩ Rr;have qM:=ae M7;have qX:=ae X7;have qZ:=ae Z7;have qY:=ae Y7;have qT:=ae T7;refine Wq ?_
      repeat (go_big_quiet_step ((first
        | (go_at_call 23;(with_reducible exact bZ (jc H N false _ SP Qm d2))))))
      exact ξR
     have d2:=ZT cA;obtain⟨D,hD⟩:=Nq (N - H);have hDm:bf (N - H)=D:=by rw[hD];unfold bf;omega
     have D128:ai D:=ρz;have Ve:Hid (nJ L qo (q+1)*65536 - m*(d.1 - c.1)=D):=ag (by rw[Xf.out,hD]);have hDr:0<=D/\D<=S*65536:=ρa;replace cA:=ag cA;replace hD:=ag hD;by_cases cB:mi<D
     rotate_left
     ·have d3:=ZF cB;have hg:=ag (show eu m L qo (q+1) mi from WT.out.step uc.out OR.out λ_=>by rw[Ve.out];omega);replace cB:=ag cB;refine bK (θ7 JT M6 X6 G6 Z6 Y6 T6) ?_;clear Rr Ss;rintro v7 ⟨J7,M7,X7,G7,Z7,Y7,T7⟩ Rr;have qM:=ae M7;have qX:=ae X7;have qZ:=ae Z7;have qY:=ae Y7;have qT:=ae T7;refine Wq ?_
      repeat (go_big_quiet_step ((first
        | (go_at_call 23;(with_reducible exact bZ (jc H N true _ SP Qm d2)))
        | (go_at_call 39;(with_reducible exact bZ (lj N H D _ Qm SP hDm)))
        | (go_at_call 23;(with_reducible exact bZ (jc mi D false _ M128 D128 d3))))))
      exact ξR
     have d3:=ZT cB;have hg:=ag (show eu m L qo (q+1) D from(WT.out.mono ρa).step uc.out OR.out λ_=>by rw[Ve.out];omega);have hat2:=ag (show vL m L D from⟨qo,q,c,d,by omega,uc.out,OR.out,Ve.out.symm⟩);have hgo:=ag (show ∀i,i<qo->eu m L i L.length D from λi hi=>(Tf.out i hi).mono ρa);replace cB:=ag cB;refine bK (θ7 JT M6 X6 G6 Z6 Y6 T6) ?_;clear Rr Ss;rintro v7 ⟨J7,M7,X7,G7,Z7,Y7,T7⟩ Rr;have qM:=ae M7;have qX:=ae X7;have qZ:=ae Z7;have qY:=ae Y7;have qT:=ae T7;refine Wq ?_
     repeat (go_big_quiet_step ((first
       | (go_at_call 23;(with_reducible exact bZ (jc H N true _ SP Qm d2)))
       | (go_at_call 39;(with_reducible exact bZ (lj N H D _ Qm SP hDm)))
       | (go_at_call 23;(with_reducible exact bZ (jc mi D true _ M128 D128 d3))))))
     refine bB (θ7 M7 X7 G7 Z7 Y7 T7 J7) ?_;clear Rr;rintro v8 ⟨M8,X8,G8,Z8,Y8,T8,Ka⟩ Rr;clear qM qX qZ qY qT M7 X7 G7 Z7 Y7 T7;go_wp2_with fail;refine Zc (θ7 Ka M8 X8 G8 Z8 Y8 T8) ?_;rintro v9 ⟨Km,M9,X9,G9,Z9,Y9,T9⟩;refine(lj N H D _ Qm SP hDm).mono ?_;rintro e N0 ⟨rfl,kx⟩;clear Rr;obtain⟨⟨Zd,TV,SO,WP,Y10,T10,Kg⟩,Rr⟩:=Mx kx (θ7 M9 X9 G9 Z9 Y9 T9 Km);clear kx;go_wp2;go_roundw;case rel=>exact⟨a++[d],r,s2,D,by rw[ZL,hq.out];go_num,by rw[JK.out];simp,rfl,by rw[ZL,hq.out];exact hsq.out,hDr,hgo.out,by rw[ZL,hq.out];exact hg.out,.inr hat2.out,ρB,ρB,SO.ko (F:=λx=>x=w.heap.size) ρK σL,Kg.trans (show KO (λx=>x=w.heap.size) N0 _ from ρK) (by intro x hx e;exfalso;(try dsimp only at e);omega)⟩
     case measure=>exact ξc
theorem yu (T Lm Bv kv:Int)(c:CD)(w:ϖ)(ht:1<=T/\T<=65536)(hl:1<=Lm/\Lm<=16384)(hB:0<=Bv/\Bv<=1099511627776)(h0:0<=c.r0)(h1:0<=c.r1/\c.r1<=1099511627776)(h2:1<=c.r2/\c.r2<=Md)(hk:kd c.r0 c.r1 c.r2=kv)(hk2:2<=kv):
  CB 15 #[φ #[ι ε T,ι ε Lm],φ (aJ c.r0 c.r1 c.r2),Bv] w (φ #[ι υ (up (Bv*65536) c.r2+T*Lm+(if kv=4 then c.r1 else 0)),Kz]):=by
 obtain⟨N,hN⟩:=Nq (Bv*65536);obtain⟨C,hC⟩:=Nq (up N c.r2);rw[hN,hC];have hNr:0<=N/\N<=72057594037927936:=ρa;have Qm:ai N:=ρz;have hCr:0<=C/\C<=N:=by
  have e1:=Int.mul_ediv_add_emod N c.r2;have e2:=Int.emod_nonneg N (show c.r2≠0 by omega);have e3:0<=N / c.r2:=Int.ediv_nonneg hNr.1 ρa;have e4:N / c.r2<=c.r2*(N / c.r2):=by have:=Int.mul_le_mul_of_nonneg_right h2.1 e3;omega
  rw[<- hC];unfold up;split<;>omega
 have hCe:sj N c.r2 C 0:=.inr (.inr ⟨h2.1,by rw[hC];unfold hi;omega,by rw[hC];unfold lo;omega,rfl⟩);obtain⟨p,hp⟩:=Nq (T*Lm);rw[hp];have hpb:0<=p/\p<=65536*16384:=κy;have RM:IntKind.u64.wrap T=T:=ZZ _ ⟨by omega,by omega⟩;have Wg:IntKind.u64.wrap Lm=Lm:=ZZ _ ⟨by omega,by omega⟩;have hw3:IntKind.u64.wrap (T*Lm)=p:=by rw[hp];exact ZZ _ ⟨by omega,by omega⟩
 obtain⟨n1,SD⟩:=Nq (C+p);have hw4:IntKind.u64.wrap (C+p)=n1:=by rw[SD];exact ZZ _ ⟨by omega,by omega⟩
 rw[SD];obtain⟨V,hV⟩:=Nq (n1+(if kv=4 then c.r1 else 0));rw[hV];have hU:∀u,CB 37 #[Bv] u (nv N):=λu=>by have h:=yx Bv u ⟨by omega,by omega⟩;rw[hN] at h;exact h
 have Xd:∀v,(Instr.field 104 (φ #[C,Kz]) 0).run Ψ v=.ok (ι υ C) v:=λ_=>by kernel_rfl
 have d1:=df (T<1);have d2:=df (65536<T);have d3:=df (Lm<1);have d4:=df (16384<Lm);have d5:=df (1099511627776<Bv);have d6:=df (kv<2);have d7:(c.r2==0)=false:=ZN.2 ρa;have WS:0<=c.r2/\c.r2<=Ma:=ρa;have hnn:0<=n1/\n1<=Mb:=ρa;replace hN:=ag hN;replace hC:=ag hC;replace hp:=ag hp;replace SD:=ag SD;replace hCe:=ag hCe;replace hk:=ag hk;replace hV:=ag hV;unfold CB;go_in;go_wp2_with fail;refine Jc (Ks (λ_=>False) w) (λv=>ah v w #[ι ε T,ι ε Lm] 23/\ah v (w+1) (aJ c.r0 c.r1 c.r2) 41/\ah v (w+2) #[Ky,Kz] 60) ⟨ρB,ρB,ρB⟩ ?_;rintro v1 ⟨Q1,U1,R1⟩ I';have Rr:=θ3 Q1.r U1.r R1.r;refine(bM c.r0 c.r1 c.r2 kv v1 h0 h1.1 WS.1 hk.out).mono ?_;rintro e v2 ⟨rfl,kx⟩;clear Rr;obtain⟨⟨Q2,U2,R2,JE⟩,Rr⟩:=Mx kx (θ4 Q1 U1 R1 I');clear kx;go_upto_region 5 with (fail);refine bK (θ4 JE Q2 U2 R2) ?_;clear Rr;rintro v3 ⟨JI,Q3,U3,R3⟩ Rr;have q:=θ3 (ae Q3) (ae U3) (ae R3);refine Wq ?_
 repeat (go_big_quiet_step ((first
   | (go_at_call 37;(with_reducible exact bZ (hU _)))
   | (go_at_call 36;(with_reducible exact bZ (uV N c.r2 C 0 _ Qm WS hCe.out))))))
 refine bB (θ4 Q3 U3 R3 JI) ?_;clear Rr;rintro v4 ⟨Q4,U4,R4,JJ⟩ Rr;clear q Q3 U3 R3;go_wp2_with fail;refine Zc (θ4 JJ Q4 U4 R4) ?_;rintro v5 ⟨JP,Q5,U5,R5⟩;refine(bM c.r0 c.r1 c.r2 kv v5 h0 h1.1 WS.1 hk.out).mono ?_;rintro e v6 ⟨rfl,kx⟩;clear Rr;obtain⟨⟨Q6,U6,R6,JT⟩,Rr⟩:=Mx kx (θ4 Q5 U5 R5 JP);clear kx;by_cases c4:kv=4
 ·have d8:(kv==4)=true:=by rw[c4];rfl
  have WX:n1+c.r1=V:=by have h:=hV.out;rw[ZP c4] at h;exact h
  have hw5:IntKind.u64.wrap (n1+c.r1)=V:=by rw[WX];exact ZZ _ ⟨by omega,by omega⟩
  replace c4:=ag c4;replace WX:=ag WX;go_wp2_with fail;refine eD v6 (λx=>x=w.heap.size+2) (λv=>ah v (w+2) #[V,Kz] 60) ρB (λ_ kx=>kx) ?_;rintro v9 R9 k9;have KS:=R9.cell;refine ZO (v:=φ #[V,Kz]) (by simp[results,Tryz.results15,go_sem,KS]) rfl ?_;exact⟨rfl,JT.toBelow.trans (k9.below JT.size ρF)⟩
 ·have d8:(kv==4)=false:=ZN.2 c4;have WX:n1=V:=by have h:=hV.out;rw[ZI c4,Int.add_zero] at h;exact h
  replace c4:=ag c4;replace WX:=ag WX;go_wp2_with fail;refine eD v6 (λx=>x=w.heap.size+2) (λv=>ah v (w+2) #[n1,Kz] 60) ρB (λ_ kx=>kx) ?_;rintro v9 R9 k9;have KS:=R9.cell;refine ZO (v:=φ #[n1,Kz]) (by simp[results,Tryz.results15,go_sem,KS]) rfl ?_;exact⟨by rw[WX.out],JT.toBelow.trans (k9.below JT.size ρF)⟩
theorem gc (id:Int)(a b:List EV):aP id (a++b)=aP id a++aP id b:=by unfold aP;rw[List.filter_append,List.map_append]
theorem eS (id:Int)(e:EV)(b:List EV)(h:dU id e=true):aP id (e::b)=(e.at_,e.pk.len)::aP id b:=by unfold aP;rw[List.filter_cons,ZP h];rfl
theorem jm (id:Int)(a:List EV):(aP id a).length=(ins id a).length:=by unfold aP ins;simp
theorem pL (q:List PK):aA q=(q.map PK.len).sum:=by
 induction q with
 | nil=>rfl
 | cons p r ih=>show p.len+aA r=_;rw[ih];simp
theorem xu (id:Int)(a:List EV):((aP id a).map Prod.snd).sum=aA (ins id a):=by rw[pL];unfold aP ins;simp[Function.comp_def]
theorem Es {m d n x:Int} (hc:cV m d n)(hx:0<=x):n*(x - if kd m d n=4 then d else 0)<=sv m d n x:=by
 obtain⟨h1,h2,h3,h4⟩:=hc;rw[ph];have hk:kd m d n=4\/(kd m d n≠4/\(n<=m\/d=0)):=by revert h1;unfold kd;(repeat' split)<;>omega
 rcases hk with hk|⟨hk,hm⟩
 ·rw[ZP hk];have NI:m=0:=by revert hk;unfold kd;(repeat' split)<;>omega
  subst NI;rw[Int.mul_sub,Int.zero_sub,Int.neg_mul];have:=ZU (show min x d<=d by omega) h4.1;omega
 ·rw[ZI hk,Int.sub_zero];rcases hm with hm|hm
  ·have:0<=(m - n)*min x d:=Int.mul_nonneg ρa ρa;omega
  ·rw[hm,show min x 0=0 by omega,Int.mul_zero];omega
theorem CQ {N n:Int} (hn:1<=n):N<=n*up N n:=by
 have e1:=Int.mul_ediv_add_emod N n;have e2:=Int.emod_nonneg N (show n≠0 by omega);have e3:=Int.emod_lt_of_pos N (show 0<n by omega);unfold up;split
 ·omega
 ·rw[Int.mul_add];omega
theorem eG.bst {m Mo:Int} {L:List (Int × Int)} (h:eG m L Mo):∀(i k:Nat) c d,i<=k->L[i]?=some c->L[k]?=some d->nJ L i (k+1)*65536 - m*(d.1 - c.1)<=up Mo 65536*65536:=λi k c d h1 h2 h3=>by have g:=h.2.1 _ ⟨i,k,c,d,h1,h2,h3,rfl⟩;have:=CQ (N:=Mo) (n:=65536) ρa;omega
theorem eG.rng {m Mo:Int} {L:List (Int × Int)} (h:eG m L Mo)(hm:0<=m)(h0:∀x ∈ L,0<=x.2)(h2:(L.map Prod.snd).sum<=1099511627776)(hs:∀(i k:Nat) c d,i<=k->L[i]?=some c->L[k]?=some d->c.1<=d.1):0<=up Mo 65536/\up Mo 65536<=1099511627776:=by
 have h1:Mo<=1099511627776*65536:=by
  rcases h.2.2 with g|⟨i,k,c,d,g1,g2,g3,g4⟩
  ·omega
  ·have a:=(uZ h0 i (k+1)).2;have b:=Int.mul_nonneg hm (show 0<=d.1 - c.1 by have:=hs i k c d g1 g2 g3;omega);omega
 have:=h.1;unfold up;split<;>omega
theorem xC {m d n TL id Bv dn t:Int} {L a1 a2 s1 s2:List EV} {ea es:EV} (hc:cV m d n)(hn:1<=n)(hL:L=a1++ea::a2)(h2:dU id ea=true)(h4:a1++[ea]=s1++es::s2)(h5:dU id es=true)(h7:dn<=t+TL)(h8:sv m d n (max (t - 1 - es.at_) 0)<aA (ins id (es::s2))*65536)
  (hB:∀(i k:Nat) c d,i<=k->(aP id L)[i]?=some c->(aP id L)[k]?=some d->nJ (aP id L) i (k+1)*65536 - n*(d.1 - c.1)<=Bv*65536):
  dn<=ea.at_+(up (Bv*65536) n+TL+if kd m d n=4 then d else 0):=by
 have e1:aP id L=aP id a1++(ea.at_,ea.pk.len)::aP id a2:=by rw[hL,gc,eS id ea a2 h2]
 have QQ:L=s1++es::(s2++a2):=by
  have:L=(a1++[ea])++a2:=by rw[hL];simp
  rw[this,h4];simp
 have e2:aP id L=aP id s1++(es.at_,es.pk.len)::aP id (s2++a2):=by rw[QQ,gc,eS id es _ h5]
 have g1:(aP id L)[(aP id a1).length]?=some (ea.at_,ea.pk.len):=by rw[e1,List.getElem?_append_right (ZR _),Nat.sub_self];rfl
 have g2:(aP id L)[(aP id s1).length]?=some (es.at_,es.pk.len):=by rw[e2,List.getElem?_append_right (ZR _),Nat.sub_self];rfl
 have e3:aP id (a1++[ea])=aP id a1++[(ea.at_,ea.pk.len)]:=by rw[gc,eS id ea [] h2];rfl
 have e4:aP id (a1++[ea])=aP id s1++aP id (es::s2):=by rw[h4,gc]
 have e5:(aP id L).take ((aP id a1).length+1)=aP id (a1++[ea]):=by rw[e1,e3,show aP id a1++(ea.at_,ea.pk.len)::aP id a2=(aP id a1++[(ea.at_,ea.pk.len)])++aP id a2 by simp,List.take_append_of_le_length ρp,List.take_of_length_le ρp]
 have Pe:(aP id s1).length<=(aP id a1).length:=by have h:=ZG List.length e4;rw[e3,eS id es s2 h5] at h;simp at h;omega
 have e6:nJ (aP id L) (aP id s1).length ((aP id a1).length+1)=aA (ins id (es::s2)):=by unfold nJ;rw[e5,e4,List.drop_left,xu]
 have h:=hB _ _ _ _ Pe g2 g1;rw[e6] at h;have hu:=CQ (N:=Bv*65536) hn;have hs:=Es (x:=max (t - 1 - es.at_) 0) hc ρa;obtain⟨D,hD⟩:=Nq (if kd m d n=4 then d else 0);rw[hD] at hs ⊢;obtain⟨u,hu2⟩:=Nq (up (Bv*65536) n);rw[hu2] at hu ⊢;have JM:n*(max (t - 1 - es.at_) 0 - D)<n*(ea.at_ - es.at_+u):=by rw[Int.mul_add];simp only at h;omega
 have:=Int.lt_of_mul_lt_mul_left JM ρa;omega
structure pD (T Lm clk Bv:Int) (c:CD) (L:List EV):Prop where
 lat:pF T Lm clk c L
 srt:L.Pairwise (λa b=>a.at_<=b.at_)
 n1:1<=c.r2
 bst:∀(i k:Nat) x d,i<=k->(aP c.id L)[i]?=some x->(aP c.id L)[k]?=some d->nJ (aP c.id L) i (k+1)*65536 - c.r2*(d.1 - x.1)<=Bv*65536
def sT (T Lm Bv:Int)(c:CD):Int:=up (Bv*65536) c.r2+T*Lm+if kd c.r0 c.r1 c.r2=4 then c.r1 else 0
section
variable {T Lm clk Bv:Int} {c:CD} {L:List EV}
theorem pD.picked (H:pD T Lm clk Bv c L) {a b:List EV} {v:EV} (e:L=a++v::b)(ho:dk c.id v=true):∃x,(aP c.id L)[(bD c.id a).length]?=some x/\v.done<=x.1+sT T Lm Bv c:=by
 obtain⟨⟨a1,ea,a2,s1,es,s2,t,rfl,h2,h3,h4,h5,h6,h7,h8⟩,h9⟩:=H.lat.out a v b e ho;have hx:L=a1++ea::(a2++v::b):=by rw[e];simp
 refine⟨(ea.at_,ea.pk.len),?_,xC H.lat.cin H.n1 hx h2 h4 h5 h7 h8 H.bst⟩;rw[<- h3,<- jm,hx,gc,eS _ _ _ h2,List.getElem?_append_right (ZR _),Nat.sub_self];rfl
theorem pM {id:Int} {L:List EV} (h:L.Pairwise (λa b=>a.at_<=b.at_)):∀(i k:Nat) c d,i<=k->(aP id L)[i]?=some c->(aP id L)[k]?=some d->c.1<=d.1:=by
 have hp:(aP id L).Pairwise (λa b=>a.1<=b.1):=by unfold aP;rw[List.pairwise_map];exact h.sublist List.filter_sublist
 intro i k c d hik hc hd;obtain⟨hi,rfl⟩:=List.getElem?_eq_some_iff.1 hc;obtain⟨hk,rfl⟩:=List.getElem?_eq_some_iff.1 hd;rcases Nat.lt_or_ge i k with g|g
 ·exact List.pairwise_iff_getElem.1 hp i k hi hk g
 ·have:i=k:=by omega
  subst this;exact ZJ _
theorem pD.waits (H:pD T Lm clk Bv c L) {k:Nat} {x:Int × Int} (hk:(bD c.id L).length<=k)(hx:(aP c.id L)[k]?=some x):clk<x.1+sT T Lm Bv c:=by
 have hl:(bD c.id L).length<(ins c.id L).length:=by have:=(List.getElem?_eq_some_iff.1 hx).1;rw[jm] at this;omega
 obtain⟨a1,ea,a2,s1,es,s2,t,ha,h2,h3,h4,h5,h6,h7,h8⟩:=H.lat.wt hl;have h:=xC H.lat.cin H.n1 ha h2 h4 h5 h7 h8 H.bst;have g1:(aP c.id L)[(bD c.id L).length]?=some (ea.at_,ea.pk.len):=by rw[<- h3,<- jm,ha,gc,eS _ _ _ h2,List.getElem?_append_right (ZR _),Nat.sub_self];rfl
 have:=pM H.srt _ _ _ _ hk g1 hx;have e:sT T Lm Bv c=up (Bv*65536) c.r2+T*Lm+(if kd c.r0 c.r1 c.r2=4 then c.r1 else 0):=rfl;simp only at this;omega
theorem uu {id x9:Int} {L:List EV} {k:Nat} {x:Int × Int} (h:∀e ∈ L,0<=e.at_/\e.at_<=x9)(hx:(aP id L)[k]?=some x):0<=x.1/\x.1<=x9:=by obtain⟨e,he,rfl⟩:=List.mem_map.1 (List.mem_of_getElem? hx);exact h e (ZE.1 he).1
theorem xB {T Lm Bv:Int} {c:CD} (ht:1<=T/\T<=65536)(hl:1<=Lm/\Lm<=16384)(hB:0<=Bv/\Bv<=1099511627776)(h2:1<=c.r2/\c.r2<=Md)(h1:0<=c.r1/\c.r1<=1099511627776):0<=sT T Lm Bv c/\sT T Lm Bv c<=4611686018427387904:=by
 have hp:0<=T*Lm/\T*Lm<=65536*16384:=⟨Int.mul_nonneg ρa ρa,Int.mul_le_mul ht.2 hl.2 ρa ρa⟩;have e1:=Int.mul_ediv_add_emod (Bv*65536) c.r2;have e2:=Int.emod_nonneg (Bv*65536) (show c.r2≠0 by omega);have e3:0<=Bv*65536 / c.r2:=Int.ediv_nonneg ρa ρa;have e4:Bv*65536 / c.r2<=c.r2*(Bv*65536 / c.r2):=by have:=Int.mul_le_mul_of_nonneg_right h2.1 e3;omega
 unfold sT up
 repeat' split
 all_goals omega
theorem xt {id:Int} {L:List EV} (h:∀e ∈ L,e.inn=true->1<=e.pk.len)(h2:∀e ∈ L,e.pk.len<=16384)(hl:L.length<=1000):(∀x ∈ aP id L,0<=x.2)/\((aP id L).map Prod.snd).sum<=1099511627776:=by
 have key:∀K:List (Int × Int),(∀x ∈ K,x.2<=16384)->(K.map Prod.snd).sum<=K.length*16384:=by
  intro K
  induction K with
  | nil=>intro _;simp
  | cons x r ih=>intro g;have g1:=g x ρp;have g2:=ih λy hy=>g y (by simp[hy]);simp at*;omega
 have hm:∀x ∈ aP id L,∃e ∈ L,e.inn=true/\x=(e.at_,e.pk.len):=λx hx=>by obtain⟨e,he,rfl⟩:=List.mem_map.1 hx;obtain⟨g1,g2⟩:=ZE.1 he;exact⟨e,g1,(fj.1 g2).1,rfl⟩
 refine⟨λx hx=>?_,?_⟩
 ·obtain⟨e,he,hi,rfl⟩:=hm x hx;have:=h e he hi;show 0<=e.pk.len;omega
 ·have:=key _ λx hx=>by obtain⟨e,he,hi,rfl⟩:=hm x hx;exact h2 e he
  have:=lG id L;omega
end
theorem yy (m:Int)(hm:1<=m/\m<=Md)(v:ϗ)(L:List (Int × Int))(hs:∀(i k:Nat) c d,i<=k->L[i]?=some c->L[k]?=some d->c.1<=d.1)(h0:∀c ∈ L,0<=c.2)(h2:(L.map Prod.snd).sum<=1099511627776)(w:ϖ)(B:Nat)(G:aS 2 lI w B v L)(hl:L.length<=1000):
  CB 14 #[m,v] w Kz:=by
 obtain⟨oa,oc,rfl,-⟩:=G.slice;obtain⟨n,hn⟩:=Nq L.length;rw[hn] at G hl ⊢;have zB:B<=w:=ρv;have d1:=df (m<1);have d2:=df (Md<m);unfold CB;go_in;go_wp2_with fail;go_loopw [15] (fun  k wr=>∃(a b:List (Int × Int)),k=ι ε (a.length:Nat)/\L=a++b/\aS 2 lI wr B (ζ oa n oc) L/\KO (λ_=>False) w wr) (λk _=>n - (intOf k).toNat);case atStart=>exact⟨[],L,rfl,rfl,G.below ρE,ρK⟩
 case round=>
  obtain⟨a,b,rfl,JK,G0,JG⟩:=hrel;have zw:=JG.size;have JO:a.length+b.length=n:=ρy;obtain⟨q,hq⟩:=Nq a.length;rw[hq] at JO ⊢;cases b with
  | nil=>have JM:¬(q:Int)<(n:Int):=ρn;have hd:=ZF JM;have KT:L=a:=ρL;change Hid _ at JO JK hq KT;go_wp2_with fail;refine(Br _ L h0 h2 _ B (G0.below ρE) ρa).mono ?_;rintro e v1 ⟨rfl,kx⟩;have I':Below wr wr v1:=Below.trans ρE kx;have zv:=I'.size;go_wp2;go_ret;exact⟨rfl,JG.toBelow.trans ((I'.trans ρE).mono zw)⟩
  | cons c r=>
   have JM:(q:Int)<(n:Int):=ρn;have hd:=ZT JM;have Kd:L[q]?=some c:=ρC;have Le:c ∈ L:=ρP;have My:q<n:=ρa;have Wn:B<=wr:=σe;obtain⟨g0,off,rfl,hg,RA⟩:=G0.at Kd;have Oc:g0<wr:=ρa;have hxs2:=JK;change Hid _ at JO hq JK Kd hn hxs2;go_upto_region 5 with (fail);go_upto_region 6 with (refine Go.wpList_load_mid rfl 64 _ rfl g0 (off+q*2) rfl (lI c) _ RA Tryz.underlying64 rfl ρh ?_;try simp only[lI]);refine Jw (θ2 JG G0) (λv=>ah v wr #[c.1,c.2] 64) ρB ?_;rintro v1 X1 ⟨I',G1⟩;have Rr:=X1.r;by_cases q0:q=0
   ·have d3:=df ((0:Int)<(q:Int));have d3':=df (0<q);replace q0:=ag q0;refine bK (θ3 I' G1 X1) ?_;clear Rr;rintro v2 ⟨JE,G2,X2⟩ Rr;have qX:=ae X2;refine Wq ?_;refine nZ ?_;refine bB (θ3 G2 X2 JE) ?_;clear Rr;rintro v3 ⟨G3,X3,JI⟩ Rr;clear qX G2 X2;go_wp2;go_roundw;case rel=>exact⟨a++[c],r,by rw[ZL,hq.out];go_num,by rw[JK.out];simp,G3.below ρE,JI.step0 ρE⟩
    case measure=>have:=JO.out;simp[intOf] at*;omega
   have d3:=dt ((0:Int)<(q:Int));have d3':=dt (0<q);obtain⟨p,hp,Vj⟩:∃p,L[q - 1]?=some p/\p.1<=c.1:=by
    have KQ:q - 1<L.length:=by have:=(List.getElem?_eq_some_iff.1 Kd.out).1;omega
    exact⟨L[q - 1]'(KQ),List.getElem?_eq_getElem KQ,hs (q - 1) q _ _ ρa (List.getElem?_eq_getElem KQ) Kd.out⟩
   obtain⟨q1,KV⟩:=Nq (q - 1);rw[KV] at hp;have RM:IntKind.i64.wrap ((q:Int) - 1)=(q1:Int):=by rw[show (q:Int) - 1=(q1:Int) by omega];exact IntWalk.i64_in _ ⟨by omega,by omega⟩
   have hqn1:(q1:Int)<(n:Int):=ρa;have d4:=df (c.1<p.1);have b1:v1.cell? ⟨g0,off+q1*2,none⟩=some (ι υ p.1):=by have:=G1.rng hp 0 _ rfl;rw[Nat.add_zero] at this;exact this
   have hg1:g0<v1:=ρa;change Hid _ at hp KV;refine bK (θ3 I' G1 X1) ?_;clear Rr;rintro v2 ⟨JE,G2,X2⟩ Rr;have qX:=ae X2;have by2:v2.cell? ⟨g0,off+q1*2,none⟩=some (ι υ p.1):=by have:=G2.rng hp.out 0 _ rfl;rw[Nat.add_zero] at this;exact this
   have hg2:g0<v2:=by have:B<=v2:=(by obtain⟨_,_,_,_,h,_⟩:=G2;exact h);omega
   have qy:=λ(d:Nat) os=>((ZW v2 d os).cell (p:=⟨g0,off+q1*2,none⟩) hg2).trans by2;refine Wq ?_;refine nZ ?_;refine bB (θ3 G2 X2 JE) ?_;clear Rr;rintro v3 ⟨G3,X3,JI⟩ Rr;clear qX G2 X2;go_wp2;go_roundw;case rel=>exact⟨a++[c],r,by rw[ZL,hq.out];go_num,by rw[JK.out];simp,G3.below ρE,JI.step0 ρE⟩
   case measure=>have:=JO.out;simp[intOf] at*;omega
end Go.Proofs.YtfdlemkplejdnaaGreat
