/- WholeBehind, part 31. Conditions: none. -/
import Derived.Test.YtfdlemkplejdnaaGreatA19
import Derived.Test.YtfdlemkplejdnaaGreatA23
import Derived.Test.YtfdlemkplejdnaaGreatA30
namespace Go.Proofs.YtfdlemkplejdnaaGreat
open Go.RowKit Go.Sort
open Value renaming int->ι,pointer->ψ,slice->ζ,tuple->χ,agg->φ,map->μ,bool->β
open IntKind renaming u64->υ,i64->ε,u16->ω
open Ending renaming returned->ϰ
open Go.Proofs.Tryz renaming prog->Ψ,underlying3->Θ,underlying147->Δ,underlying152->Γ,underlying202->Φ,underlying39->Ξ,underlying207->Ω
open Go renaming World->ϖ,Value->ϗ
set_option linter.unusedVariables false
set_option linter.unusedSimpArgs false
set_option maxHeartbeats 8000000
set_option maxRecDepth 100000
def eJ (k:Int)(x:CD)(L:List CD):List CD:=if k=2 then pX x.id L else fz x L
theorem yj (A T M:Nat)(L:List CD)(x:CD)(w:ϖ)(A0:ah w A #[T] 145)(H:aF w T M L)(hL:L.length<=1000):Calls Ψ 142 #[φ (fx x),A] w λe w'=>∃n L',e=ϰ (ι ε n)/\aF w' T M L'/\(n=0->L'=pX x.id L)/\(n≠0->L'=L)/\KO (λy=>y=M) w w':=by
 have zT:=H.1.size;have zM:=H.2.1.size;have Rr:=A0.r;go_in;go_wp2_with fail;refine Calls.mono (F4 T M L x.id _ (H.below ρE) hL) ?_;rintro e v ⟨n,L',rfl,H2,h1,h2,kx⟩;refine δP ?_;intro k2 z2;clear kx;go_wp2;go_ret;exact⟨n,L',rfl,H2.below ρE,h1,h2,k2.step0 ρE⟩
theorem AX (T M:Nat)(L:List CD)(k:Int)(hk:k=1)(x:CD)(xs:List Int)(hu:bQ L x.par xs)(IF:xs.length<=1000)(w:ϖ)(H:aF w T M L)(hL:L.length<=1000)(hr:(0<=x.r0/\0<=x.r1/\0<=x.r2)/\(0<=x.l0/\0<=x.l1/\0<=x.l2)/\(0<=x.u0/\0<=x.u1/\0<=x.u2)):Calls Ψ 107 #[T,φ #[ι ε k,ι ε x.id,ι ε x.par,β x.lf,x.r0,x.r1,x.r2,x.l0,x.l1,x.l2,x.u0,x.u1,x.u2,ι ε x.pk,ι ε x.by_]] w λe w'=>∃n L',e=ϰ (ι ε n)/\aF w' T M L'/\(n=0->L'=eJ k x L/\(k=1\/k=3->x.ok))/\(n≠0->L'=L)/\(tF x L xs->n=0)/\KO (λy=>y=M) w w':=by
 have zT:=H.1.size;have zM:=H.2.1.size;subst hk;go_in;go_wp2_with fail;refine Calls.mono (Ei T M L x xs _ (H.below ρE) hL hr hu IF) ?_;rintro e v ⟨n,L',rfl,H2,h1,h2,hg,kx⟩;refine δP ?_;intro k2 z2;clear kx;go_wp2;go_ret;exact⟨n,L',rfl,H2.below ρE,λh=>⟨by rw[(h1 h).1];simp[eJ],λ_=>(h1 h).2⟩,h2,hg,k2.step0 ρE⟩
theorem Dw (T M:Nat)(L:List CD)(k:Int)(hk:k=3)(x:CD)  (w:ϖ)(H:aF w T M L)(hL:L.length<=1000)(hr:(0<=x.r0/\0<=x.r1/\0<=x.r2)/\(0<=x.l0/\0<=x.l1/\0<=x.l2)/\(0<=x.u0/\0<=x.u1/\0<=x.u2)):Calls Ψ 107 #[T,φ #[ι ε k,ι ε x.id,ι ε x.par,β x.lf,x.r0,x.r1,x.r2,x.l0,x.l1,x.l2,x.u0,x.u1,x.u2,ι ε x.pk,ι ε x.by_]] w λe w'=>∃n L',e=ϰ (ι ε n)/\aF w' T M L'/\(n=0->L'=eJ k x L/\(k=1\/k=3->x.ok))/\(n≠0->L'=L)/\KO (λy=>y=M) w w':=by
 have zT:=H.1.size;have zM:=H.2.1.size;subst hk;go_in;go_wp2_with fail;refine Calls.mono (Ga T M L x _ (H.below ρE) hL hr) ?_;rintro e v ⟨n,L',rfl,H2,h1,h2,kx⟩;refine δP ?_;intro k2 z2;clear kx;go_wp2;go_ret;exact⟨n,L',rfl,H2.below ρE,λh=>⟨by rw[(h1 h).1];simp[eJ],λ_=>(h1 h).2⟩,h2,k2.step0 ρE⟩
theorem Dv (T M:Nat)(L:List CD)(k:Int)(hk:k=2)(x:CD)  (w:ϖ)(H:aF w T M L)(hL:L.length<=1000)(hr:(0<=x.r0/\0<=x.r1/\0<=x.r2)/\(0<=x.l0/\0<=x.l1/\0<=x.l2)/\(0<=x.u0/\0<=x.u1/\0<=x.u2)):Calls Ψ 107 #[T,φ #[ι ε k,ι ε x.id,ι ε x.par,β x.lf,x.r0,x.r1,x.r2,x.l0,x.l1,x.l2,x.u0,x.u1,x.u2,ι ε x.pk,ι ε x.by_]] w λe w'=>∃n L',e=ϰ (ι ε n)/\aF w' T M L'/\(n=0->L'=eJ k x L/\(k=1\/k=3->x.ok))/\(n≠0->L'=L)/\KO (λy=>y=M) w w':=by
 have zT:=H.1.size;have zM:=H.2.1.size;subst hk;go_in;go_wp2_with fail;refine Calls.mono (yj _ T M L x _ ρB (H.below ρE) hL) ?_;rintro e v ⟨n,L',rfl,H2,h1,h2,kx⟩;refine δP ?_;intro k2 z2;clear kx;go_wp2;go_ret;exact⟨n,L',rfl,H2.below ρE,λh=>⟨by rw[h1 h];simp[eJ],λh=>by omega⟩,h2,k2.step0 ρE⟩
theorem Du (T M:Nat)(L:List CD)(k:Int)(hk:k≠1/\k≠3/\k≠2)(x:CD)  (w:ϖ)(H:aF w T M L)(hL:L.length<=1000)(hr:(0<=x.r0/\0<=x.r1/\0<=x.r2)/\(0<=x.l0/\0<=x.l1/\0<=x.l2)/\(0<=x.u0/\0<=x.u1/\0<=x.u2)):Calls Ψ 107 #[T,φ #[ι ε k,ι ε x.id,ι ε x.par,β x.lf,x.r0,x.r1,x.r2,x.l0,x.l1,x.l2,x.u0,x.u1,x.u2,ι ε x.pk,ι ε x.by_]] w λe w'=>∃n L',e=ϰ (ι ε n)/\aF w' T M L'/\(n=0->L'=eJ k x L/\(k=1\/k=3->x.ok))/\(n≠0->L'=L)/\KO (λy=>y=M) w w':=by
 have zT:=H.1.size;have zM:=H.2.1.size;go_in;have d1:(k==1)=false:=ρ7;have d3:(k==3)=false:=ρ7;have d2:(k==2)=false:=ρ7;go_wp2;go_ret;exact⟨1,L,rfl,H.below ρE,by omega,λ_=>rfl,(KO.of_below ρE)⟩
theorem qg (x:CD):∀L:List CD,(fz x L).length<=L.length+1
 | []=>by simp[fz]
 | c::r=>by
  have:=qg x r;unfold fz;split
  ·simp
  ·simp;omega
theorem wY (id:Int)(L:List CD):(pX id L).length<=L.length:=ZH _ _
theorem qc (k:Int)(x:CD)(L:List CD):(eJ k x L).length<=L.length+1:=by
 unfold eJ;split
 ·have:=wY x.id L;omega
 ·exact qg x L
theorem nD {L:List CD} {rk:Int->Nat} (h:∀id c,fc L id=some c->fc L c.par=none\/rk c.par<rk id):∀n id,rk id<=n->∃xs,bQ L id xs/\xs.length<=n+1
 | n,id,hr=>by
  cases hc:fc L id with
  | none=>exact⟨[],hc,by simp⟩
  | some c=>
   rcases h id c hc with h0|h0
   ·exact⟨[id],⟨c,hc,rfl,h0⟩,by simp⟩
   ·cases n with
    | zero=>omega
    | succ m=>obtain⟨xs,h1,h2⟩:=nD h m c.par ρa;exact⟨id::xs,⟨c,hc,rfl,h1⟩,by simp;omega⟩
def pg (c:Int × CD):List ϗ:=[ι ε c.1,ι ε c.2.id,ι ε c.2.par,β c.2.lf,c.2.r0,c.2.r1,c.2.r2,c.2.l0,c.2.l1,c.2.l2,c.2.u0,c.2.u1,c.2.u2,ι ε c.2.pk,ι ε c.2.by_]
def vX:List (Int × CD)->List CD->Prop
 | [],_=>True
 | c::r,L=>(c.1=1->∃xs,bQ L c.2.par xs/\xs.length<=900)/\vX r (eJ c.1 c.2 L)
theorem pC {c:CD} (h:cW (kd c.r0 c.r1 c.r2)=true)(h0:0<=c.r0/\0<=c.r1/\0<=c.r2):iO c.r0 c.r1 c.r2:=by
 have h1:kd c.r0 c.r1 c.r2≠0:=by intro e;rw[e] at h;exact ax h ρf
 have:=gO h1;exact⟨h1,by omega,by omega,by omega⟩
theorem uQ {L:List CD} {p:CD->Bool} (h:(L.map CD.id).Nodup) {y:Int} (hy:y ∈ aN p L):∃c,fc L y=some c/\p c=true:=by
 unfold aN at hy;rw[List.mem_mergeSort,List.mem_map] at hy;obtain⟨c,hc,rfl⟩:=hy;rw[List.mem_filter] at hc;refine⟨c,?_,hc.2⟩;have:∀(L:List CD),(L.map CD.id).Nodup->c ∈ L->fc L c.id=some c:=by
  intro L
  induction L with
  | nil=>intro _ h;cases h
  | cons a r ih=>
   intro hn hm;rw[gY,ZD] at hn;unfold fc;rcases ZC.1 hm with e|e
   ·rw[e,ZP rfl]
   ·rw[ZI (λe2=>hn.1 (by rw[<- e2];exact List.mem_map_of_mem e))];exact ih hn.2 e
 exact this L h hc.1
def ru:Prop:=∀(t:Int)(v:ϗ)(l:List CD)(w:ϖ)(base:Nat),ae 41 3 fo w base v l->(1<=t/\t<=65536)->l.length<=49->(∀c ∈ l,iO c.r0 c.r1 c.r2)->Calls Ψ 108 #[ι ε t,v] w λe w'=>∃n,e=ϰ (ι ε n)/\Below w w w'/\(l=[]->n=0)
def po:List (Int × CD)->List CD->Prop
 | [],L=>aN (λc:CD=>cW (kd c.r0 c.r1 c.r2)) L=[]
 | c::r,L=>c.1=1/\(∀ys,bQ L c.2.par ys->tF c.2 L ys)/\po r (eJ c.1 c.2 L)
theorem wP {P:Prop} (hP:¬P) {f:FuncId} {args:Array ϗ} {w:ϖ} {A:Int->List CD->ϖ->Prop} {B C:Int->List CD->Prop} {D:ϖ->Prop} (h:Calls Ψ f args w λe w'=>∃n L',e=ϰ (ι ε n)/\A n L' w'/\B n L'/\C n L'/\D w'):Calls Ψ f args w λe w'=>∃n L',e=ϰ (ι ε n)/\A n L' w'/\B n L'/\C n L'/\(P->n=0)/\D w':=by
 refine h.mono ?_;rintro e w' ⟨n,L',rfl,h1,h2,h3,h4⟩;exact⟨n,L',rfl,h1,h2,h3,λq=>ax q hP,h4⟩
theorem qP (hF:ru)(T M:Nat)(L:List CD)(t:Int)(v:ϗ)(xs:List (Int × CD))(B:Nat)(w:ϖ)(H:aF w T M L)(ht:1<=t/\t<=65536)(hL:L.length<=10)(G:az 15 pg w B v xs)(zB:B<=w)(Jq:vX xs L)(JG:∀c ∈ xs,(0<=c.2.r0/\0<=c.2.r1/\0<=c.2.r2)/\(0<=c.2.l0/\0<=c.2.l1/\0<=c.2.l2)/\(0<=c.2.u0/\0<=c.2.u1/\0<=c.2.u2))(IF:xs.length<=1000000):Calls Ψ 76 #[T,ι ε t,v] w λe w'=>∃u i n,e=ϰ (χ #[u,ι ε i,ι ε n])/\(n=0->∃T' M',u=ψ (some ⟨T',0,none⟩)/\w.heap.size<=T'/\w.heap.size<=M'/\aF w' T' M' (xs.foldl (λL c=>eJ c.1 c.2 L) L))/\(po xs L->xs.length<=32->n=0)/\Below w w w':=by
 obtain⟨oa,oc,rfl,-⟩:=G.slice;obtain⟨n,hn⟩:=Nq xs.length;rw[hn] at G IF ⊢;have zT:=H.1.size;have zM:=H.2.1.size;have d1:=df (t<1);have d2:=df (65536<t);go_in;go_upto_region 5 with (fail);by_cases h32:32<n
 ·have d3:=dt ((32:Int)<(n:Int));go_wp2;refine ZO (v:=χ #[Kp,Kz,ι ε 2]) τP rfl ?_;exact⟨ψ none,0,2,rfl,λh=>ax h ρa,λ_ h=>ax h ρa,ρE⟩
 have d3:=df ((32:Int)<(n:Int));go_wp2_with fail;refine(Ej T M L _ (H.below ρE)).mono ?_;rintro e vb ⟨T2,M2,rfl,H1,zT2,zM2,k1⟩;have b1:Below w w vb:=Below.trans ρE (k1.mono ρp);have G1:=G.belowK b1 zB;have zM2':w<=M2:=by (try simp at zM2);omega
 have zT2':w<=T2:=by (try simp at zT2);omega
 have z1:=b1.size;clear k1 zT2 zM2;replace hn:=ag hn;go_wp2_with fail;go_loopw [32] (λk wr=>∃(a b:List (Int × CD)) (Lr:List CD),k=ι ε (a.length:Nat)/\xs=a++b/\Lr=a.foldl (λL c=>eJ c.1 c.2 L) L/\Lr.length<=L.length+a.length/\vX b Lr/\(po xs L->po b Lr)/\aF wr T2 M2 Lr/\az 15 pg wr B (ζ oa n oc) xs/\KO (λy=>y=M2) vb wr) (λk _=>n - (intOf k).toNat);case atStart=>exact⟨[],xs,L,rfl,rfl,rfl,by simp,Jq,λh=>h,H1,G1,KO.refl _ _⟩
 case round=>
  obtain⟨a,b,Lr,rfl,Vr,hLr,IS,hcb,hgb,T0,G0,IB⟩:=hrel;replace hgb:=ag hgb;have zw:=IB.size;clear G1 H1;have IK:a.length+b.length=n:=by rw[<- hn.out,Vr,ZL]
  obtain⟨q,hq⟩:=Nq a.length;rw[hq] at IK IS ⊢;have kb:KO (λ_=>False) w wr:=(KO.of_below (F:=λ_=>False) b1).trans IB (by intro y hy h;(try dsimp only at h);omega);have zTr:=T0.1.size;have zMr:=T0.2.1.size;have Zy:Lr.length<=1000:=ρa;have hL49:Lr.length<=49:=ρa;have Lx:=gi T0;cases b with
  | nil=>
   refine η8 ?_;intro IJ hd;have ha:a=xs:=by rw[Vr,ZA]
   change Hid _ at IK hq Vr ha hLr hcb;go_wp2_with fail;refine(Cw T2 M2 Lr _ (T0.below ρE) Zy).mono ?_;rintro e v4 ⟨u,rfl,R4,k4⟩;have b4:Below wr wr v4:=Below.trans ρE (k4.mono ρp);have T4:=T0.below b4;have z4:=b4.size;clear k4;go_wp2_with fail;refine Calls.mono (hF t _ _ _ _ (ae.below R4 ρE) ⟨ht.1,ht.2⟩ ?_ ?_) ?_
   ·rw[pf];unfold aN;rw[List.length_mergeSort,pf];exact ZK (ZH _ _) hL49
   ·intro c hc;obtain⟨i,hi,rfl⟩:=List.mem_map.1 hc;obtain⟨d,Li,hp⟩:=uQ Lx hi;unfold di;rw[Li];exact pC hp (T0.2.2 d (aM Li).1).2.2.1
   rintro e v5 ⟨m,rfl,k5,Np⟩;have b5:Below v4 v4 v5:=Below.trans ρE (k5.mono ρp);have T5:=T4.below b5;have z5:=b5.size;have IN:KO (λ_=>False) w v5:=(kb.step0 b4).step0 b5;clear k5 kb IB;by_cases h0:m=0
   ·subst h0;go_wp2_with fail;refine ZO (v:=χ #[T2,Kz,Kz]) τP rfl ?_;refine⟨_,0,0,rfl,λ_=>⟨T2,M2,rfl,zT2',zM2',?_⟩,λ_ _=>rfl,(IN.step0 ρE).toBelow⟩;rw[<- ha.out,<- hLr.out];exact T5.below ρE
   ·have e0:(m==0)=false:=by rw[ZN];exact h0
    have e1:(m !=0)=true:=by simp[h0]
    go_wp2_with fail;refine ZO (v:=χ #[Kp,Kz,ι ε m]) τP rfl ?_;exact⟨_,0,m,rfl,λh=>ax h h0,λg _=>Np (by rw[show aN (λc:CD=>cW (kd c.r0 c.r1 c.r2)) Lr=[] from hgb.out g];rfl),(IN.step0 ρE).toBelow⟩
  | cons kx r=>
   obtain⟨k,x⟩:=kx;refine δb ?_;intro IJ hd;have Lz:xs[q]?=some (k,x):=by rw[Vr,<- hq];simp
   obtain⟨hs,hcr⟩:=hcb;have Uv:=JG (k,x) (by rw[Vr];simp);obtain⟨g,II,rfl,hg,RA⟩:=G0.at Lz;have hLr1:eJ k x Lr=(a++[(k,x)]).foldl (λL c=>eJ c.1 c.2 L) L:=by rw[List.foldl_append,<- hLr];rfl
   have Lw:=qc k x Lr;change Hid _ at IK hq Vr hLr hLr1 hcr;go_upto_region 10 with (fail);go_wp2_with (refine Go.wpList_load_mid rfl 86 _ rfl g (II+q*15) rfl (pg (k,x)) _ RA Tryz.underlying86 rfl ρh ?_;try simp only[pg,List.toArray]);refine Zc (θ3 IB T0 G0) ?_;rintro v1 ⟨F',T1,G1⟩;have Wv:Calls Ψ 107 #[T2,φ #[ι ε k,ι ε x.id,ι ε x.par,β x.lf,x.r0,x.r1,x.r2,x.l0,x.l1,x.l2,x.u0,x.u1,x.u2,ι ε x.pk,ι ε x.by_]] v1 λe w'=>∃n L',e=ϰ (ι ε n)/\aF w' T2 M2 L'/\(n=0->L'=eJ k x Lr/\(k=1\/k=3->x.ok))/\(n≠0->L'=Lr)/\(po ((k,x)::r) Lr->n=0)/\KO (λy=>y=M2) v1 w':=by
    by_cases e1:k=1
    ·obtain⟨ys,hu,hul⟩:=hs e1;refine(AX T2 M2 Lr k e1 x ys hu ρa _ T1 Zy Uv).mono ?_;rintro e w' ⟨n,L',rfl,q1,q2,q3,q4,q5⟩;exact⟨n,L',rfl,q1,q2,q3,λg=>q4 (g.2.1 ys hu),q5⟩
    ·by_cases e3:k=3
     ·exact wP (λg=>e1 g.1) (Dw T2 M2 Lr k e3 x _ T1 Zy Uv)
     ·by_cases e2:k=2
      ·exact wP (λg=>e1 g.1) (Dv T2 M2 Lr k e2 x _ T1 Zy Uv)
      ·exact wP (λg=>e1 g.1) (Du T2 M2 Lr k ⟨e1,e3,e2⟩ x _ T1 Zy Uv)
   refine Calls.mono Wv ?_;rintro e v2 ⟨m,L',rfl,T2',h1,h2,hgo,kx⟩;clear Wv;have G2:=G1.ko kx (λy hy h=>by (try dsimp only at h);omega);have Iz:=F'.trans kx (λy hy h=>h);have z2:=Iz.size;clear kx;by_cases h0:m=0
   ·subst h0;obtain⟨rfl,-⟩:=h1 rfl;go_wp2;go_roundw;case rel=>exact⟨a++[(k,x)],r,_,by rw[ZL,hq.out];go_num,by rw[Vr.out];simp,hLr1.out,by rw[ZL,hq.out];simp;omega,hcr.out,λg=>(hgb.out g).2.2,T2'.below ρE,G2.below ρE,Iz.step0 ρE⟩
    case measure=>exact ξc
   ·have e0:(m==0)=false:=by rw[ZN];exact h0
    have e1:(m !=0)=true:=by simp[h0]
    have kz:KO (λ_=>False) w v2:=(KO.of_below (F:=λ_=>False) b1).trans Iz (by intro y hy h;(try dsimp only at h);omega);go_wp2_with fail;refine ZO (v:=χ #[Kp,ι ε (q:Nat),ι ε m]) τP rfl ?_;exact⟨_,_,m,rfl,λh=>ax h h0,λg _=>hgo (hgb.out g),(kz.step0 ρE).toBelow⟩
theorem AW (hF:ru)(T M:Nat)(L:List CD)(t:Int)(v:ϗ)(xs:List (Int × CD))(B:Nat)(w:ϖ)(H:aF w T M L)(ht:1<=t/\t<=65536)(hL:L.length<=10)(G:az 15 pg w B v xs)(zB:B<=w)(Jq:vX xs L)(JG:∀c ∈ xs,(0<=c.2.r0/\0<=c.2.r1/\0<=c.2.r2)/\(0<=c.2.l0/\0<=c.2.l1/\0<=c.2.l2)/\(0<=c.2.u0/\0<=c.2.u1/\0<=c.2.u2))(IF:xs.length<=1000000):Calls Ψ 76 #[T,ι ε t,v] w λe w'=>∃u i n,e=ϰ (χ #[u,ι ε i,ι ε n])/\(n=0->∃T' M',u=ψ (some ⟨T',0,none⟩)/\w.heap.size<=T'/\w.heap.size<=M'/\aF w' T' M' (xs.foldl (λL c=>eJ c.1 c.2 L) L))/\Below w w w':=by
 refine(qP hF T M L t v xs B w H ht hL G zB Jq JG IF).mono ?_;rintro e w' ⟨u,i,n,rfl,h1,_,h2⟩;exact⟨u,i,n,rfl,h1,h2⟩
def jC (h m:K4):K4:=⟨bits .and .u16 h.a m.a,bits .and .u16 h.b m.b,bits .and .u16 h.c m.c,bits .and .u16 h.d m.d⟩
theorem tV (h m:K4)(w:ϖ):CB 74 #[kv h,kv m] w (kv (jC h m)):=by obtain⟨a,b,c,d⟩:=h;obtain⟨x,y,z,u⟩:=m;unfold CB;go_in;go_upto_region 2 with (fail);refine Jw (Ks (λ_=>False) w) (λv=>ah v w #[ι ω a,ι ω b,ι ω c,ι ω d] 48/\ah v ((w+1)) #[ι ω x,ι ω y,ι ω z,ι ω u] 48/\ah v ((w+2)) #[eN,eN,eN,eN] 48) ⟨ρB,ρB,ρB⟩ ?_;rintro v1 ⟨H1,M1,R1⟩ F';replace rR:=R1.r;have Rr:=θ2 H1.r M1.r;refine wp_loop_rounds 5 ?_;rw[cV];go_upto_region 4 with (fail);refine bS (θ4 F' H1 M1 R1) ?_;clear Rr;rintro v2 ⟨Iz,H2,M2,R2⟩ Rr;replace rR:=R2.r;have q:=θ3 (af H2) (af M2) (af R2);refine Ws 8 (gw ?_);refine bF (θ4 H2 M2 R2 Iz) ?_;clear Rr;rintro v3 ⟨H3,M3,R3,ID⟩ Rr;replace rR:=R3.r;clear q H2 M2 R2;go_wp2_with fail;refine FP v3 (λx=>x=w.heap.size) (λv=>ah v w #[ι ω (bits .and .u16 a x),ι ω b,ι ω c,ι ω d] 48/\ah v ((w+1)) #[ι ω x,ι ω y,ι ω z,ι ω u] 48/\ah v ((w+2)) #[eN,eN,eN,eN] 48) ⟨ρB,ρB,ρB⟩ (λ_ kx=>(ID.trans kx σ4)) ?_;rintro v4 ⟨H4,M4,R4⟩ IC;replace rR:=R4.r;replace Rr:=θ2 H4.r M4.r;rw[cV];go_upto_region 4 with (fail);refine bS (θ4 IC H4 M4 R4) ?_;clear Rr;rintro v5 ⟨IN,H5,M5,R5⟩ Rr;replace rR:=R5.r;have q:=θ3 (af H5) (af M5) (af R5);refine Ws 8 (gw ?_);refine bF (θ4 H5 M5 R5 IN) ?_;clear Rr;rintro v6 ⟨H6,M6,R6,IQ⟩ Rr;replace rR:=R6.r;clear q H5 M5 R5;go_wp2_with fail;refine FP v6 (λx=>x=w.heap.size) (λv=>ah v w #[ι ω (bits .and .u16 a x),ι ω (bits .and .u16 b y),ι ω c,ι ω d] 48/\ah v ((w+1)) #[ι ω x,ι ω y,ι ω z,ι ω u] 48/\ah v ((w+2)) #[eN,eN,eN,eN] 48) ⟨ρB,ρB,ρB⟩ (λ_ kx=>(IQ.trans kx σ4)) ?_;rintro v7 ⟨H7,M7,R7⟩ I8;replace rR:=R7.r;replace Rr:=θ2 H7.r M7.r;rw[cV];go_upto_region 4 with (fail);refine bS (θ4 I8 H7 M7 R7) ?_;clear Rr;rintro v8 ⟨Je,H8,M8,R8⟩ Rr;replace rR:=R8.r;have q:=θ3 (af H8) (af M8) (af R8);refine Ws 8 (gw ?_);refine bF (θ4 H8 M8 R8 Je) ?_;clear Rr;rintro v9 ⟨H9,M9,R9,Jl⟩ Rr;replace rR:=R9.r;clear q H8 M8 R8;go_wp2_with fail;refine FP v9 (λx=>x=w.heap.size) (λv=>ah v w #[ι ω (bits .and .u16 a x),ι ω (bits .and .u16 b y),ι ω (bits .and .u16 c z),ι ω d] 48/\ah v ((w+1)) #[ι ω x,ι ω y,ι ω z,ι ω u] 48/\ah v ((w+2)) #[eN,eN,eN,eN] 48) ⟨ρB,ρB,ρB⟩ (λ_ kx=>(Jl.trans kx σ4)) ?_;rintro Lj ⟨SX,OZ,Qd⟩ I7;replace rR:=Qd.r;replace Rr:=θ2 SX.r OZ.r;rw[cV];go_upto_region 4 with (fail);refine bS (θ4 I7 SX OZ Qd) ?_;clear Rr;rintro JR ⟨Jn,TH,Rq,LH⟩ Rr;replace rR:=LH.r;have q:=θ3 (af TH) (af Rq) (af LH);refine Ws 8 (gw ?_);refine bF (θ4 TH Rq LH Jn) ?_;clear Rr;rintro Mj ⟨H12,Tc,QA,Jk⟩ Rr;replace rR:=QA.r;clear q TH Rq LH;go_wp2_with fail;refine FP Mj (λx=>x=w.heap.size) (λv=>ah v w #[ι ω (bits .and .u16 a x),ι ω (bits .and .u16 b y),ι ω (bits .and .u16 c z),ι ω (bits .and .u16 d u)] 48/\ah v ((w+1)) #[ι ω x,ι ω y,ι ω z,ι ω u] 48/\ah v ((w+2)) #[eN,eN,eN,eN] 48) ⟨ρB,ρB,ρB⟩ (λ_ kx=>(Jk.trans kx σ4)) ?_;rintro NO ⟨H13,VJ,R13⟩ JM;replace rR:=R13.r;replace Rr:=θ2 H13.r VJ.r;rw[cV];go_wp2_with fail;refine eu NO (λx=>x=(w.heap.size+2)) (λv=>ah v w #[ι ω (bits .and .u16 a x),ι ω (bits .and .u16 b y),ι ω (bits .and .u16 c z),ι ω (bits .and .u16 d u)] 48/\ah v ((w+1)) #[ι ω x,ι ω y,ι ω z,ι ω u] 48/\ah v ((w+2)) #[ι ω (bits .and .u16 a x),ι ω (bits .and .u16 b y),ι ω (bits .and .u16 c z),ι ω (bits .and .u16 d u)] 48) ⟨ρB,ρB,ρB⟩ (λ_ kx=>(JM.trans kx σ4)) ?_;rintro RW ⟨H14,YQ,R14⟩ Mh;replace rR:=R14.r;replace Rr:=θ2 H14.r YQ.r;refine ZO (v:=φ #[ι ω (bits .and .u16 a x),ι ω (bits .and .u16 b y),ι ω (bits .and .u16 c z),ι ω (bits .and .u16 d u)]) (by simp[results,Tryz.results74,go_sem,rR.1]) rfl ⟨rfl,Mh.toBelow⟩
structure RL where
 (m w:K4)
 (c:Int)
def pi (r:RL):List ϗ:=[ι ω r.m.a,ι ω r.m.b,ι ω r.m.c,ι ω r.m.d,ι ω r.w.a,ι ω r.w.b,ι ω r.w.c,ι ω r.w.d,ι ε r.c]
theorem AN:(Ψ.info? 88).map (λi=>(i.zero,i.size,i.bytes))=some (some (φ #[eN,eN,eN,eN,eN,eN,eN,eN,Kz]),9,24):=by kernel_rfl
def jc (r:RL)(h:K4):Bool:=decide (jC h r.m=r.w)
theorem Gc (k j:K4)(v:ϖ):(binOp .eql 48 (kv k) (kv j)).run Ψ v=.ok (β (decide (k=j))) v:=by rw[run_eql_struct,wD 9998 k j];simp[Result.andThen]
theorem BA (k j:K4)(v:ϖ):(binOp .neq 48 (kv k) (kv j)).run Ψ v=.ok (β (decide (k≠j))) v:=by rw[run_neq_struct,wD 9998 k j];simp[Result.andThen]
def jb:K4:=⟨65535,65535,65535,65535⟩
theorem Ah (w:ϖ):Calls Ψ 75 #[] w λe w'=>e=ϰ (kv jb)/\Below w w w':=by go_in;go_wp2_with fail;refine Jb (Ks (λ_=>False) w) (λv=>ah v w #[ι ω 65535,ι ω 65535,ι ω 65535,ι ω 65535] 48) ρB ?_;rintro v1 R1 F';replace rR:=R1.r;exact ZO (v:=φ #[ι ω 65535,ι ω 65535,ι ω 65535,ι ω 65535]) (by simp[results,Tryz.results75,go_sem,rR.1]) rfl ⟨rfl,F'.toBelow⟩
theorem uX (r:RL)(h:K4)(w:ϖ):Calls Ψ 125 #[φ #[ι ω r.m.a,ι ω r.m.b,ι ω r.m.c,ι ω r.m.d,ι ω r.w.a,ι ω r.w.b,ι ω r.w.c,ι ω r.w.d,ι ε r.c],kv h] w λe w'=>e=ϰ (β (jc r h))/\Below w w w':=by
 obtain⟨⟨a,b,c,d⟩,⟨x,y,z,u⟩,cl⟩:=r;have he:=Gc (jC h ⟨a,b,c,d⟩) ⟨x,y,z,u⟩;have hu:=λv=>tV h ⟨a,b,c,d⟩ v;obtain⟨q,hq⟩:=Nq (jC h ⟨a,b,c,d⟩);rw[hq] at he hu;show Calls _ _ _ _ λe w'=>e=ϰ (β (decide (jC h ⟨a,b,c,d⟩=⟨x,y,z,u⟩)))/\_;rw[hq];clear hq;obtain⟨s,hs⟩:=Nq (decide (q=⟨x,y,z,u⟩));rw[hs] at he ⊢;clear hs;obtain⟨h0,h1,h2,h3⟩:=h;obtain⟨q0,q1,q2,q3⟩:=q;simp only[kv] at he hu ⊢;go_in;go_upto_region 1 with (fail);refine Jw (Ks (λ_=>False) w) (λv=>ah v w #[ι ω a,ι ω b,ι ω c,ι ω d,ι ω x,ι ω y,ι ω z,ι ω u,ι ε cl] 88/\ah v ((w+1)) #[ι ω h0,ι ω h1,ι ω h2,ι ω h3] 48) ⟨ρB,ρB⟩ ?_;rintro v1 ⟨R1,H1⟩ F';have Rr:=θ2 R1.r H1.r;refine bS (θ3 F' R1 H1) ?_;clear Rr;rintro v2 ⟨Iz,R2,H2⟩ Rr;have qR:=af R2;have qH:=af H2;refine Wq ?_
 repeat (go_big_quiet_step ((first
   | (go_at_call 74;(with_reducible exact bT (hu _))))))
 refine bF (θ3 R2 H2 Iz) ?_;clear Rr;rintro v3 ⟨R3,H3,ID⟩ Rr;clear qR qH R2 H2;go_wp2;go_ret;exact⟨rfl,(ID.step0 ρE).toBelow⟩
theorem bB.of_eq {w v:ϖ} {M:Nat} {L:List FW} (h:bB w M L)(e:v.heap[M]?=w.heap[M]?):bB v M L:=by obtain⟨es,ck,h1,h2⟩:=h;exact⟨es,ck,by rw[e];exact h1,h2⟩
theorem bB.size {w:ϖ} {M:Nat} {L:List FW} (h:bB w M L):M<w:=by obtain⟨es,ck,h1,_⟩:=h;exact(Array.getElem?_eq_some_iff.1 h1).1
theorem bB.below {w v:ϖ} {M:Nat} {L:List FW} (h:bB w M L)(k:Below w w v):bB v M L:=h.of_eq (k.block M h.size)
instance {w M L}:Mv (bB w M L) w (λv'=>bB v' M L):=⟨λk h=>bB.below h k⟩
theorem bB.ko {w v:ϖ} {F:Nat->Prop} {M:Nat} {L:List FW} (h:bB w M L)(k:KO F w v)(hF:¬F M):bB v M L:=h.of_eq (k.block M h.size hF)
theorem mR {k:K4}:∀{L:List FW} {i:Nat} {p:Nat × FW},bN L k i=some p->p.2 ∈ L
 | [],i,p,h=>by cases h
 | f::r,i,p,h=>by
  unfold bN at h;split at h
  ·cases h;simp
  ·exact rt _ (mR h)
theorem AO (x:RL):(pi x).length=9:=rfl
def bI (w:ϖ)(B:Nat)(rs:List RL)(ex:List FW)(ms:List Int)(fp:Nat->Prop):Prop:=∃(base:Nat)(M:Nat)(rv mv:ϗ),ah w B #[rv,.map (some M),mv] 164/\ae 88 9 pi w base rv rs/\bB w M ex/\HI w base mv ms/\(rs.length<=1000/\ms.length<=1000)/\(∀f ∈ ex,0<=f.p/\f.p.toNat<rs.length)/\(∀i ∈ ms,0<=i/\i.toNat<rs.length)/\(∀x,x=B\/x=M\/some x=rv.ownBlock\/some x=mv.ownBlock->fp x)/\(∀x,fp x->x<w.heap.size)
theorem bI.ko {w v:ϖ} {F fp:Nat->Prop} {B:Nat} {rs:List RL} {ex:List FW} {ms:List Int} (h:bI w B rs ex ms fp)(k:KO F w v)(hF:∀x,fp x->¬F x):bI v B rs ex ms fp:=by obtain⟨base,M,rv,mv,h1,h2,h3,h4,h5,h6,h7,h8,h9⟩:=h;exact⟨base,M,rv,mv,h1.ko k (hF _ (h8 _ (.inl rfl))),h2.ko k (λx _ hx=>hF _ (h8 _ (.inr (.inr (.inl hx))))),h3.ko k (hF _ (h8 _ (.inr (.inl rfl)))),ae.ko h4 k (λx _ hx=>hF _ (h8 _ (.inr (.inr (.inr hx))))),h5,h6,h7,h8,λx hx=>ZB (h9 x hx) k.size⟩
theorem bI.below {w v:ϖ} {fp:Nat->Prop} {B:Nat} {rs:List RL} {ex:List FW} {ms:List Int} (h:bI w B rs ex ms fp)(k:Below w w v):bI v B rs ex ms fp:=h.ko (KO.of_below (F:=λ_=>False) k) (λ_ _ f=>f)
instance {w B rs ex ms fp}:Mv (bI w B rs ex ms fp) w (λv'=>bI v' B rs ex ms fp):=⟨λk h=>bI.below h k⟩
def Bi (f:Option (Nat × FW)):Int:=match f with|some p=>p.2.p|none=>0
theorem np {w:ϖ} {M:Nat} {L:List FW} (h:bB w M L)(k:K4):(Instr.lookup 162 (.map (some M)) (kv k) true).run Ψ w=.ok (χ #[ι ε (Bi (bN L k 0)),β (bN L k 0).isSome]) w:=by rw[qt h k];cases bN L k 0<;>rfl
def rW (rs:List RL)(A:Option Int)(h:K4):List Int->Option Int
 | []=>A.bind λi=>(rs[i.toNat]?).map (·.c)
 | i::r=>if (match A with | some j=>decide (j<i) | none=>false)=true then A.bind λi=>(rs[i.toNat]?).map (·.c) else match rs[i.toNat]? with
  | some x=>if jc x h then some x.c else rW rs A h r
  | none=>none
theorem Cu {rs:List RL} {A:Option Int} {h:K4} {i:Nat} {r:List Int} {x:RL} {th:Bool} {at_:Int} (hA:A=if th then some at_ else none)(hx:rs[i]?=some x):rW rs A h ((i:Int)::r)=if (th && decide (at_<i))=true then A.bind (λi=>(rs[i.toNat]?).map (·.c)) else if jc x h then some x.c else rW rs A h r:=by
 subst hA;cases th with
 | false=>simp[rW,hx]
 | true=>simp[rW,hx]
theorem CP (B0:Nat)(rs:List RL)(ex:List FW)(ms:List Int)(fp:Nat->Prop)(h:K4)(w:ϖ)(H:bI w B0 rs ex ms fp):
  CB 85 #[B0,kv h] w (χ #[ι ε ((rW rs ((bN ex h 0).map λp=>p.2.p) h ms).getD 0),ι ε (if (rW rs ((bN ex h 0).map λp=>p.2.p) h ms).isSome then 0 else 31)]):=by
 obtain⟨h0,h1,h2,h3⟩:=h;obtain⟨base,MM,rv,mv,T,HR,E,S,IS,QN,Up,-,-⟩:=H;have R:=HR.rd AO;obtain⟨ra,rcap,rfl,-⟩:=R.slice;obtain⟨ma,SG,rfl⟩:=ae.slice S;obtain⟨rn,Sw⟩:=Nq rs.length;obtain⟨mn,Mz⟩:=Nq ms.length;rw[Sw] at T R IS QN Up;rw[Mz] at T S IS;clear HR;obtain⟨f0,hf0⟩:=Nq (bN ex ⟨h0,h1,h2,h3⟩ 0);obtain⟨at_,Lq⟩:=Nq (Bi f0);obtain⟨th,RQ⟩:=Nq f0.isSome;have lk0:∀{v:ϖ},bB v MM ex->(Instr.lookup 162 (.map (some MM)) (φ #[ι ω h0,ι ω h1,ι ω h2,ι ω h3]) true).run Ψ v=.ok (χ #[ι ε at_,β th]) v:=λhv=>by rw[<- Lq,<- RQ,<- hf0];exact np hv ⟨h0,h1,h2,h3⟩
 obtain⟨A,hA⟩:=Nq (f0.map (λp=>p.2.p));have Ud:A=if th then some at_ else none:=by rw[<- hA,<- RQ,<- Lq];cases f0<;>rfl
 have RD:th=true->0<=at_/\at_.toNat<rn:=λh=>by rw[<- RQ] at h;rw[<- Lq];cases hq:f0 with|none=>rw[hq] at h;cases h|some p=>exact QN p.2 (mR (hf0.trans hq))
 rw[hf0,hA];obtain⟨Vw,LZ⟩:=Nq (rW rs A ⟨h0,h1,h2,h3⟩ ms);rw[LZ];obtain⟨rc,hrc⟩:=Nq (Vw.getD 0);obtain⟨rn2,WA⟩:=Nq (if Vw.isSome=true then (0:Int) else 31);rw[hrc,WA];have NF:Vw=none->rc=0/\rn2=31:=λe=>by rw[<- hrc,<- WA,e];exact⟨rfl,rfl⟩
 have hso:∀c,Vw=some c->rc=c/\rn2=0:=λc e=>by rw[<- hrc,<- WA,e];exact⟨rfl,rfl⟩
 clear hrc WA;clear hA Lq RQ hf0 QN f0;have zT:=T.size;have cT:=T.cell;have fT:=T.frozen;have zT:=T.size;have MQ:=(lk0 E);unfold CB;go_in;go_upto_region 3 with (fail);refine Jw (θ5 (Ks (λ_=>False) w) T R E S) (λv=>ah v w #[ι ω h0,ι ω h1,ι ω h2,ι ω h3] 48) ρB ?_;rintro v1 H1 ⟨F',T1,R1,E1,S1⟩;replace cT:=T1.cell;replace fT:=T1.frozen;replace zT:=T1.size;have Rr:=H1.r;replace MQ:=(lk0 E1);refine Zw (θ6 F' T1 R1 E1 S1 H1) ?_;rintro v2 ⟨Iz,T2,R2,E2,S2,H2⟩;replace cT:=T2.cell;replace fT:=T2.frozen;replace zT:=T2.size;replace Rr:=H2.r;replace MQ:=(lk0 E2);have qT:=af T2;have P':=λd os=>(lk0 (E2.below (ZW _ d os)));have qH:=af H2;refine Wq ?_;refine pe ?_;refine Zq (θ6 T2 R2 E2 S2 H2 Iz) ?_;rintro v3 ⟨T3,R3,E3,S3,H3,ID⟩;replace cT:=T3.cell;replace fT:=T3.frozen;replace zT:=T3.size;replace Rr:=H3.r;replace MQ:=(lk0 E3);clear qT P' qH T2 R2 E2 S2 H2;have z3:=ID.size;change Hid _ at Mz Sw;go_wp2_with fail;go_loopw [26] (λk wr=>∃(a b:List Int),k=ι ε (a.length:Nat)/\ms=a++b/\Vw=rW rs A ⟨h0,h1,h2,h3⟩ b/\ah wr B0 #[ζ ra rn rcap,.map (some MM),ζ ma mn SG] 164/\az 9 pi wr w (ζ ra rn rcap) rs/\HI wr base (ζ ma mn SG) ms/\ah wr w #[ι ω h0,ι ω h1,ι ω h2,ι ω h3] 48/\KO (λ_=>False) w wr) (λk _=>mn - (intOf k).toNat);case atStart=>exact⟨[],ms,rfl,rfl,LZ.symm,T3,R3,S3,H3,ID⟩
 case round=>
  obtain⟨a,b,rfl,IF,hfd,T0,R0,S0,H0,IB⟩:=hrel;have zw:=IB.size;clear T3 R3 E3 S3 H3 ID cT fT zT MQ;have IK:a.length+b.length=mn:=by rw[<- Mz.out,IF,ZL]
  obtain⟨q,hq⟩:=Nq a.length;rw[hq] at IK ⊢;have cT:=T0.cell;have fT:=T0.frozen;have zT:=T0.size;have Ss:=H0.r;cases b with
  | nil=>
   have IJ:¬(q:Int)<(mn:Int):=ρo;have hd:=ZF IJ;change Hid _ at IK hq IF hfd;rcases th with _|_
   ·have hm:Vw=none:=by rw[hfd.out,Ud];rfl
    obtain⟨rfl,rfl⟩:=NF hm;go_wp2_with fail;refine ZO (v:=χ #[Kz,ι ε 31]) τO rfl ⟨rfl,(IB.step0 ρE).toBelow⟩
   ·obtain⟨g1,g2⟩:=RD rfl;obtain⟨j,rfl⟩:∃j:Nat,at_=j:=⟨at_.toNat,by omega⟩;simp only[Int.toNat_natCast] at g2;obtain⟨x,hx⟩:∃x,rs[j]?=some x:=⟨_,List.getElem?_eq_getElem (by rw[Sw.out];exact g2)⟩;have hm:Vw=some x.c:=by rw[hfd.out,Ud];simp[rW,hx]
    obtain⟨rfl,rfl⟩:=hso _ hm;obtain⟨g,II,rfl⟩:=R0.some (λe=>by rw[e] at hx;simp at hx);have cx:=R0.cell hx 8 (u:=ι ε x.c) rfl;have gj:(j:Int)<rn:=ρa;have jn:(j:Int)<=1000:=ρa;go_wp2_with fail;refine ZO (v:=χ #[ι ε x.c,Kz]) τO rfl ⟨rfl,(IB.step0 ρE).toBelow⟩
  | cons i r=>
   have IJ:(q:Int)<(mn:Int):=ρo;have hd:=ZT IJ;have Lz:ms[q]?=some i:=ρF;have IX:ms≠[]:=ρR;obtain⟨i0,i1⟩:=Up i ρR;obtain⟨i,rfl⟩:∃j:Nat,i=j:=⟨i.toNat,by omega⟩;simp only[Int.toNat_natCast] at i1;obtain⟨x,hx⟩:∃x,rs[i]?=some x:=⟨_,List.getElem?_eq_getElem (by rw[Sw.out];exact i1)⟩;obtain⟨Tz,MX,g0,e0,JA,e1,_⟩:=ae.at S0 (λ_=>rfl);have e1:=e1 IX;have e2:=(ZV e0).1;have e3:=(ZV e0).2.2;clear e0;subst e2;subst e3;subst e1;obtain⟨cx,gx,bx⟩:=HI.cell S0 q i Lz;have KL:q<mn:=ρa;have in_:(i:Int)<rn:=ρa;have in1:(i:Int)<=1000:=ρa;obtain⟨g,II,rfl⟩:=R0.some (λe=>by rw[e] at hx;simp at hx);have OL:Vw=if (th && decide (at_<i))=true then A.bind (λi=>(rs[i.toNat]?).map (·.c)) else if jc x ⟨h0,h1,h2,h3⟩ then some x.c else rW rs A ⟨h0,h1,h2,h3⟩ r:=by rw[hfd];exact Cu Ud hx
   change Hid _ at IK hq IF hfd JA;by_cases hc:(th && decide (at_<i))=true
   ·rw[ZP hc] at OL;simp only[Bool.and_eq_true,decide_eq_true_eq] at hc;obtain⟨RQ,Kg⟩:=hc;subst RQ;have Li:decide (at_<(i:Int))=true:=ZT Kg;obtain⟨g1,g2⟩:=RD rfl;obtain⟨j,rfl⟩:∃j:Nat,at_=j:=⟨at_.toNat,by omega⟩;simp only[Int.toNat_natCast] at g2;obtain⟨y,hy⟩:∃y,rs[j]?=some y:=⟨_,List.getElem?_eq_getElem (by rw[Sw.out];exact g2)⟩;have hm:Vw=some y.c:=by rw[OL,Ud];simp[hy]
    obtain⟨rfl,rfl⟩:=hso _ hm;have cy:=R0.cell hy 8 (u:=ι ε y.c) rfl;have gj:(j:Int)<rn:=ρa;have jn:(j:Int)<=1000:=ρa;change Hid _ at hm OL;go_wp2_with fail;refine ZO (v:=χ #[ι ε y.c,Kz]) τO rfl ⟨rfl,(IB.step0 ρE).toBelow⟩
   ·rw[ZI hc] at OL;obtain⟨s,hs⟩:=Nq (jc x ⟨h0,h1,h2,h3⟩);rw[hs] at OL;have hth2:∀Q:Prop,(th=false->Q)->(th=true->decide (at_<(i:Int))=false->Q)->Q:=λQ f g=>by cases th with|false=>exact f rfl|true=>exact g rfl (by simpa using hc)
    refine hth2 _ (λRQ=>?_) (λRQ Li=>?_)
    all_goals
     subst RQ;replace OL:=ag OL;have Np:=λv=>uX x ⟨h0,h1,h2,h3⟩ v;rw[hs] at Np;simp only[kv] at Np;go_upto_region 8 with (fail);refine Zw (θ5 IB T0 R0 S0 H0) ?_;rintro JR ⟨Jn,T11,LH,TP,TH⟩;replace cT:=T11.cell;replace fT:=T11.frozen;replace zT:=T11.size;clear Ss;replace Rr:=TH.r;replace lS0:=(HI.cell TP q i Lz).1;have qT:=af T11;have qS0:=λd os=>(HI.cell (TP.below (ZW _ d os)) q i Lz).1;have qH:=af TH;refine Wq ?_
     repeat (first
      | (refine dD 88 (.tmp 41) g (II+i*9) (pi x) _ rfl rfl ρr (λw' hb=>az.rng (az.below LH hb) hx) Tryz.underlying88 rfl ρh ?_;simp only[pi];(try simp only[Act.put,List.setIfInBounds_toArray,List.set_cons_succ,List.set_cons_zero]))
      | (go_big_quiet_step ((first
       | (go_at_call 125;(with_reducible exact bT (Np _)))))))
     refine Zq (θ5 T11 LH TP TH Jn) ?_;rintro Mj ⟨T12,QA,Xp,H12,Jk⟩;replace cT:=T12.cell;replace fT:=T12.frozen;replace zT:=T12.size;replace Rr:=H12.r;replace lS0:=(HI.cell Xp q i Lz).1;clear qT qS0 qH T11 LH TP TH;have z12:=Jk.size;rcases s with _|_
     ·go_wp2;go_roundw;case rel=>exact⟨a++[(i:Int)],r,by rw[ZL,hq.out];go_num,by rw[IF.out];simp,by rw[OL.out];rfl,T12.below ρE T12.size,QA.below ρE,ae.below Xp ρE,H12.below ρE H12.size,Jk.step0 ρE⟩
      case measure=>exact ξc
     ·have hm:Vw=some x.c:=by rw[OL.out];rfl
      obtain⟨rfl,rfl⟩:=hso _ hm;have cy:=QA.cell hx 8 (u:=ι ε x.c) rfl;replace hm:=ag hm;go_wp2_with fail;refine ZO (v:=χ #[ι ε x.c,Kz]) τO rfl ⟨rfl,(Jk.step0 ρE).toBelow⟩
theorem Ag (v:ϗ)(L:List RL)(B:Nat)(w:ϖ)(G:az 9 pi w B v L)(hL:L.length<=1000):Calls Ψ 73 #[v] w λe w'=>∃v',e=ϰ v'/\ae 88 9 pi w' w v' L/\Below w w w':=by
 have G0:=G;obtain⟨oa,oc,rfl,-⟩:=G0.slice;cases oa with
 | none=>
  have hL:L=[]:=by obtain⟨_,_,e,_,_,h,_⟩:=G;exact(h (ZV e).1.symm).2
  subst hL;have hc:oc=0:=by obtain⟨_,_,e,_,_,h,_⟩:=G;rw[(ZV e).2.2];exact(h (ZV e).1.symm).1
  subst hc;have hq:=λ(w:ϖ) (a:Option Addr) n c=>Lib.run_eql_slice_nil (P:=Ψ) w 78 88 a n c 0 0 Tryz.underlying78;go_in;go_wp2;go_ret;exact⟨_,rfl,ae.nil _ _,ρE⟩
 | some ad=>obtain⟨n,hn⟩:=Nq L.length;have G1:=G;rw[hn] at G1 ⊢;have hq:=λ(w:ϖ) (a:Option Addr) n c=>Lib.run_eql_slice_nil (P:=Ψ) w 78 88 a n c 0 0 Tryz.underlying78;go_in;go_upto_region 3 with (fail);go_wp2_with (refine jV Tryz.underlying78 AN rfl (λ_=>rfl) (λ_ _ h=>by simp[pi] at h;rcases h with rfl | rfl | rfl | rfl | rfl | rfl | rfl | rfl | rfl<;>rfl) ρf ρf rfl (.tmp 5) (.tmp 6) rfl w B _ _ [] L ρr ρr (ae.zero ρB (ZR _)) (az.below G1 ρE) ρJ ρp ?_;intro v' w' H' kx);go_ret;refine⟨_,rfl,H',?_⟩;have b1:Below w w w':=kx.below (B:=w.heap.size) ρp (λx hx e=>by simp[Value.ownBlock] at e;omega) |> λh=>(Below.trans ρE h);exact b1.trans ρE
def EO (l:List RL):Prop:=l.length<=32/\∀r ∈ l,1<=r.c/\r.c<=65536/\jC r.w r.m=r.w
def eQ:List RL->Nat->List FW->List Int->List FW × List Int
 | [],_,ex,ms=>(ex,ms)
 | r::l,i,ex,ms=>if r.m≠jb then eQ l (i+1) ex (ms++[(i:Int)]) else if (bN ex r.w 0).isSome=true then eQ l (i+1) ex ms else eQ l (i+1) (ex++[⟨r.w,i⟩]) ms
theorem bB.made (w:ϖ):bB (w.alloc (.map #[] 0)) w []:=⟨#[],0,(MapKept.heap_alloc w _).1,rfl⟩
theorem bB.alloc {w:ϖ} {M:Nat} {L:List FW} (h:bB w M L)(o:Obj):bB (w.alloc o) M L:=h.of_eq ((MapKept.heap_alloc w o).2 M h.size)
theorem qw {w w':ϖ} {M:Nat} {L:List FW} (h:bB w M L)(k:K4) {f:ϗ} (hr:(Instr.mapUpdate 162 (.map (some M)) (kv k) f).run Ψ w=.ok () w')(hk:∀b,b≠M->w'.heap[b]?=w.heap[b]?)(hb:w'.heap.size=w)(h2:Below M w w'):KO (λx=>x=M) w w':=⟨h2.os,h2.tape,h2.output,by omega,λb _ hbM=>hk b hbM⟩
theorem BE (v:ϗ)(l:List RL)(B:Nat)(w:ϖ)(G:az 9 pi w B v l)(hl:l.length<=1000):Calls Ψ 50 #[v] w λe w'=>∃u n,e=ϰ (χ #[u,ι ε n])/\Below w w w'/\((n≠0/\¬EO l)\/(n=0/\∃B2 fp,u=ψ (some ⟨B2,0,none⟩)/\(∀x,fp x->w.heap.size<=x)/\bI w' B2 l (eQ l 0 [] []).1 (eQ l 0 [] []).2 fp)):=by
 obtain⟨oa,oc,rfl,-⟩:=G.slice;obtain⟨n,hn⟩:=Nq l.length;have G1:=G;rw[hn] at G1 hl ⊢;go_in;go_upto_region 1 with (fail);by_cases h32:32<n
 ·have d0:=dt ((32:Int)<(n:Int));go_wp2;refine ZO (v:=χ #[Kp,ι ε 2]) τj rfl ⟨_,2,rfl,ρE,.inl ⟨by omega,λh=>by unfold EO at h;omega⟩⟩
 have d0:=df ((32:Int)<(n:Int));go_wp2_with fail;refine(Ag _ l B _ (az.below G1 ρE) ρa).mono ?_;rintro e v2 ⟨cv,rfl,C2,k2⟩;have b2:Below w w v2:=Below.trans ρE (k2.mono (by first|exact ZR _|(simp;done)|(simp;omega)));have z2:=b2.size;replace C2:=ae.base_le C2 (b':=w.heap.size) (by first|exact ZR _|(simp;done)|(simp;omega));obtain⟨ca,cc,rfl⟩:=ae.slice C2;rw[hn];rw[hn] at C2;have zB:B<=w:=by obtain⟨_,_,_,_,h3,_⟩:=G1;exact h3
 have G2:=az.belowK G1 b2 zB;clear k2;have Xc:∀x,some x=(Value.slice ca n cc).ownBlock->x<v2.heap.size:=λx hx=>(ae.own_ge C2 x hx.symm).2;have PG:=@run_makeMap Ψ;replace hn:=ag hn;have Iz:KO (λ_=>False) w v2:=KO.of_below b2;go_wp2_with fail;refine Jw (θ3 Iz C2 G2) (λv=>ah v ((v2+1)) #[ζ ca n cc,.map (some v2),Kn] 164/\bB v v2 []) ⟨ρB,(bB.made v2).alloc _⟩ ?_;rintro v3 ⟨T3,E3⟩ ⟨ID,C3,G3⟩;replace rT:=T3.r;have z3:=ID.size;have b3:=ID.toBelow;have z23:v2.heap.size+1<v3:=rT.2.2;clear PG;go_loopw [19] (λk wr=>∃(a b:List RL) (ex:List FW) (ms:List Int) (mv:ϗ),k=ι ε (a.length:Nat)/\l=a++b/\eQ l 0 [] []=eQ b a.length ex ms/\(∀r ∈ a,1<=r.c/\r.c<=65536/\jC r.w r.m=r.w)/\ms.length<=a.length/\(∀f ∈ ex,0<=f.p/\f.p.toNat<a.length)/\(∀i ∈ ms,0<=i/\i.toNat<a.length)/\ae 88 9 pi wr w (ζ ca n cc) l/\az 9 pi wr B (ζ oa n oc) l/\ah wr (v2+1) #[ζ ca n cc,.map (some v2),mv] 164/\bB wr v2 ex/\HI wr v3 mv ms/\KO (λx=>x=v2.heap.size+1\/x=v2.heap.size) v3 wr) (λk _=>n - (intOf k).toNat);case atStart=>exact⟨[],l,[],[],_,rfl,rfl,rfl,λ_ h=>by simp at h,ZR _,λ_ h=>by simp at h,λ_ h=>by simp at h,C3,G3,T3,E3,ae.nil _ _,KO.refl _ _⟩
 case round=>
  obtain⟨a,b,ex,ms,mv,rfl,IF,Sy,Jo,Tu,QN,Up,C0,G0,T0,E0,S0,IB⟩:=hrel;have zw:=IB.size;clear C3 G3 T3 E3 ID C2 G2 Iz;have IK:a.length+b.length=n:=τe;obtain⟨q,hq⟩:=Nq a.length;rw[hq] at IK Sy Tu QN Up ⊢;obtain⟨ma,SG,rfl⟩:=ae.slice S0;obtain⟨mn,Mz⟩:=Nq ms.length;rw[Mz] at T0 S0 Tu;have rT:=T0.r;have zC:∀x,some x=(Value.slice ca n cc).ownBlock->x<v2.heap.size:=Xc;have zB3:B<=w:=zB;cases b with
  | nil=>
   refine η8 ?_;intro IJ hd;have ha:a=l:=ρN;have KL:q=n:=by rw[<- hq,ha,hn.out]
   simp only[eQ] at Sy;change Hid _ at IK hq IF Sy ha;go_wp2_with fail;refine ZO (v:=χ #[ψ (some ⟨v2+1,0,none⟩),Kz]) τj rfl ⟨_,0,rfl,(b3.trans (IB.below (B:=w.heap.size) ρa τw)).trans ρE,.inr ⟨rfl,?_⟩⟩;refine⟨v2+1,rfl,λx=>x=v2.heap.size+1\/x=v2\/some x=(Value.slice ca n cc).ownBlock\/some x=(Value.slice ma mn SG).ownBlock,?_,?_⟩
   ·rintro x (rfl|rfl|h|h)
    ·omega
    ·omega
    ·exact(ae.own_ge C0 x h.symm).1
    ·have:=(ae.own_ge S0 x h.symm).1;omega
   ·rw[Sy.out];refine bI.below ⟨w,v2,_,_,T0,C0,E0,ae.base_le S0 ρa,⟨by rw[hn.out];omega,by rw[Mz];omega⟩,λf hf=>by rw[hn.out,<- KL];exact QN f hf,λi hi=>by rw[hn.out,<- KL];exact Up i hi,λx h=>h,?_⟩ ρE;rintro x (rfl|rfl|h|h)
    ·exact T0.size
    ·exact E0.size
    ·exact(ae.own_ge C0 x h.symm).2
    ·exact(ae.own_ge S0 x h.symm).2
  | cons r rest=>
    obtain⟨⟨k0,k1,k2,k3⟩,⟨j0,j1,j2,j3⟩,cl⟩:=r;refine δb ?_;intro IJ hd;have Lz:l[q]?=some ⟨⟨k0,k1,k2,k3⟩,⟨j0,j1,j2,j3⟩,cl⟩:=ρF;have Nc:(⟨⟨k0,k1,k2,k3⟩,⟨j0,j1,j2,j3⟩,cl⟩:RL) ∈ l:=ρR;obtain⟨g,II,rfl,hg,RA⟩:=G0.at Lz;have KL:q<n:=ρa;have hu:=λv=>tV ⟨j0,j1,j2,j3⟩ ⟨k0,k1,k2,k3⟩ v;have he:=λv=>BA (jC ⟨j0,j1,j2,j3⟩ ⟨k0,k1,k2,k3⟩) ⟨j0,j1,j2,j3⟩ v;have hra:jC ⟨j0,j1,j2,j3⟩ ⟨k0,k1,k2,k3⟩=⟨j0,j1,j2,j3⟩↔decide (jC ⟨j0,j1,j2,j3⟩ ⟨k0,k1,k2,k3⟩≠⟨j0,j1,j2,j3⟩)=false:=ρp;obtain⟨z,hz⟩:=Nq (jC ⟨j0,j1,j2,j3⟩ ⟨k0,k1,k2,k3⟩);rw[hz] at hu he hra;obtain⟨s,hs⟩:=Nq (decide (z≠⟨j0,j1,j2,j3⟩));rw[hs] at he hra;have NF:cl<1\/65536<cl\/s=true->¬EO l:=λh hr=>by have:=hr.2 _ Nc;rcases h with h|h|h;(· have:=this.1;simp only at this;omega);(· have:=this.2.1;simp only at this;omega);(· have h3:jC ⟨j0,j1,j2,j3⟩ ⟨k0,k1,k2,k3⟩=⟨j0,j1,j2,j3⟩:=this.2.2;rw[hz] at h3;rw[hra.1 h3] at h;cases h)
    obtain⟨z0,z1,z2_,z3_⟩:=z;simp only[kv] at hu he;have Yn:=λv=>BA ⟨k0,k1,k2,k3⟩ jb v;obtain⟨s2,Ja⟩:=Nq (decide ((⟨k0,k1,k2,k3⟩:K4)≠jb));rw[Ja] at Yn;simp only[kv,jb] at Yn;have hwh:=λv=>Ah v;simp only[kv,jb] at hwh;have ll:∀{v:ϖ},bB v v2 ex->(Instr.lookup 162 (.map (some v2)) (φ #[ι ω j0,ι ω j1,ι ω j2,ι ω j3]) true).run Ψ v=.ok (χ #[ι ε (Bi (bN ex ⟨j0,j1,j2,j3⟩ 0)),β (bN ex ⟨j0,j1,j2,j3⟩ 0).isSome]) v:=λhv=>np hv ⟨j0,j1,j2,j3⟩;obtain⟨at_,Lq⟩:=Nq (Bi (bN ex ⟨j0,j1,j2,j3⟩ 0));obtain⟨th,RQ⟩:=Nq ((bN ex ⟨j0,j1,j2,j3⟩ 0).isSome);rw[Lq,RQ] at ll;have Vp:eQ l 0 [] []=if s2=true then eQ rest (q+1) ex (ms++[(q:Int)]) else if th=true then eQ rest (q+1) ex ms else eQ rest (q+1) (ex++[⟨⟨j0,j1,j2,j3⟩,q⟩]) ms:=by rw[Sy,eQ,<- RQ];simp only[<- Ja];by_cases h:(⟨k0,k1,k2,k3⟩:K4)=jb<;>simp[h]
    change Hid _ at IK hq IF Sy Vp NF hra hz Nc hs Ja RQ Lq;go_upto_region 7 with (refine Go.wpList_load_mid rfl 88 _ rfl g (II+q*9) rfl (pi ⟨⟨k0,k1,k2,k3⟩,⟨j0,j1,j2,j3⟩,cl⟩) _ RA Tryz.underlying88 rfl ρh ?_;try simp only[pi]);refine jf (θ6 IB C0 G0 T0 E0 S0) (λv=>ah v wr #[ι ω k0,ι ω k1,ι ω k2,ι ω k3,ι ω j0,ι ω j1,ι ω j2,ι ω j3,ι ε cl] 88) ρB ?_;rintro v21 X21 ⟨NH,C21,G21,T21,E21,Xq⟩ Rr;replace rT:=T21.r;have Ss:=X21.r;replace MQ:=(ll E21);have z21:=NH.size;by_cases c1:cl<1
    ·have d1:=ZT c1;refine δz ?_;clear Rr Ss rT MQ;intro OT Lf RX Px QD Ot Ow Rz Rr rT MQ qT P' qX
     repeat (go_big_quiet_step ((first
       | (go_at_call 74;(with_reducible exact bT (hu _))))))
     refine bF (θ7 RX Px QD Ot Ow Rz Lf) ?_;clear Rr;rintro YB ⟨C23,Xl,Xt,SV,TR,Va,NI⟩ Rr;replace rT:=Xt.r;replace MQ:=(ll SV);clear qT P' qX RX Px QD Ot Ow Rz;go_wp2_with fail;refine ZO (v:=χ #[Kp,Ko]) τj rfl ⟨_,1,rfl,(b3.trans (NI.below (B:=w.heap.size) ρa τw)).trans ρE,.inl ⟨by omega,NF.out (.inl c1)⟩⟩
    have d1:=ZF c1;by_cases c2:65536<cl
    ·have d2:=ZT c2;refine δz ?_;clear Rr Ss rT MQ;intro OT Lf RX Px QD Ot Ow Rz Rr rT MQ qT P' qX
     repeat (go_big_quiet_step ((first
       | (go_at_call 74;(with_reducible exact bT (hu _))))))
     refine bF (θ7 RX Px QD Ot Ow Rz Lf) ?_;clear Rr;rintro YB ⟨C23,Xl,Xt,SV,TR,Va,NI⟩ Rr;replace rT:=Xt.r;replace MQ:=(ll SV);clear qT P' qX RX Px QD Ot Ow Rz;go_wp2_with fail;refine ZO (v:=χ #[Kp,Ko]) τj rfl ⟨_,1,rfl,(b3.trans (NI.below (B:=w.heap.size) ρa τw)).trans ρE,.inl ⟨by omega,NF.out (.inr (.inl c2))⟩⟩
    have d2:=ZF c2;rcases s with _|_
    rotate_left
    ·refine δz ?_;clear Rr Ss rT MQ;intro OT Lf RX Px QD Ot Ow Rz Rr rT MQ qT P' qX
     repeat (go_big_quiet_step ((first
       | (go_at_call 74;(with_reducible exact bT (hu _))))))
     refine bF (θ7 RX Px QD Ot Ow Rz Lf) ?_;clear Rr;rintro YB ⟨C23,Xl,Xt,SV,TR,Va,NI⟩ Rr;replace rT:=Xt.r;replace MQ:=(ll SV);clear qT P' qX RX Px QD Ot Ow Rz;go_wp2_with fail;refine ZO (v:=χ #[Kp,Ko]) τj rfl ⟨_,1,rfl,(b3.trans (NI.below (B:=w.heap.size) ρa τw)).trans ρE,.inl ⟨by omega,NF.out (.inr (.inr ρp))⟩⟩
    skip;refine δz ?_;clear Rr Ss rT MQ;intro OT Lf RX Px QD Ot Ow Rz Rr rT MQ qT P' qX
    repeat (go_big_quiet_step ((first
      | (go_at_call 74;(with_reducible exact bT (hu _))))))
    refine bF (θ7 RX Px QD Ot Ow Rz Lf) ?_;clear Rr;rintro YB ⟨C23,Xl,Xt,SV,TR,Va,NI⟩ Rr;replace rT:=Xt.r;replace MQ:=(ll SV);clear qT P' qX RX Px QD Ot Ow Rz;go_upto_region 9 with (fail);refine bS (θ7 NI C23 Xl Xt SV TR Va) ?_;clear Rr;rintro v24 ⟨SD,C24,YL,T24,VC,VT,Pf⟩ Rr;replace rT:=T24.r;replace MQ:=(ll VC);have qT:=af T24;have P':=λd os=>(ll (VC.below (ZW _ d os)));have qX:=af Pf;refine Wq ?_;refine pe ?_;refine bF (θ7 C24 YL T24 VC VT Pf SD) ?_;clear Rr;rintro v25 ⟨C25,G25,T25,E25,S25,RC,Uz⟩ Rr;replace rT:=T25.r;replace MQ:=(ll E25);clear qT P' qX C24 YL T24 VC VT Pf;go_upto_region 10 with (fail);refine bS (θ7 Uz C25 G25 T25 E25 S25 RC) ?_;clear Rr;rintro YC ⟨WM,C26,G26,T26,YI,Xr,VW⟩ Rr;replace rT:=T26.r;replace MQ:=(ll YI);have qT:=af T26;have P':=λd os=>(ll (YI.below (ZW _ d os)));have qX:=af VW;refine Wq ?_
    repeat (go_big_quiet_step ((first
      | (go_at_call 75;(with_reducible exact bT (hwh _))))))
    refine bF (θ7 C26 G26 T26 YI Xr VW WM) ?_;clear Rr;rintro v27 ⟨C27,G27,T27,E27,Rx,Xv,SE⟩ Rr;replace rT:=T27.r;replace MQ:=(ll E27);clear qT P' qX C26 G26 T26 YI Xr VW;have z27:=SE.size;have Ur:∀r ∈ a++[(⟨⟨k0,k1,k2,k3⟩,⟨j0,j1,j2,j3⟩,cl⟩:RL)],1<=r.c/\r.c<=65536/\jC r.w r.m=r.w:=λr hr=>by
     rcases ZM.1 hr with h|h
     ·exact Jo r h
     ·simp only[ZS] at h;subst h;exact⟨by simp only;omega,by simp only;omega,(hz.out).trans (hra.out.2 rfl)⟩
    replace Ur:=ag Ur;rcases s2 with _|_
    rotate_left
    ·have J2:ms.length<=1000000:=by rw[Mz];omega
     go_wp2_with (refine au Tryz.underlying45 bD rfl (λ_=>rfl) ρI ρf ρf rfl (.tmp 61) (.tmp 63) rfl v3 (ζ ma mn SG) ms (q:Int) v27 #[ι ε (q:Int)] rfl ρr ρr (Rx.below ρE) ρB (by rw[Mz];omega) τB ?_;intro o28 v28 Tf kx;replace kx:=kx.of_alloc;have C28:=C27.ko kx (λx hx hh h=>ae.notown Rx (by have:=zC x hh;omega) h);have G28:=G27.ko kx (λy hy h=>ae.notown Rx ρa h);have T28:=T27.ko kx (λh=>ae.ne_blk Rx T27 ρf h);have Xk:=E27.ko kx (ae.notown Rx ρa);have TY:=Xv.ko kx (λh=>ae.ne_blk Rx Xv ρf h);have SF:KO (λx=>x=v2.heap.size+1\/x=v2) v3 v28:=SE.trans kx (by intro y hy h;exact ax h (ae.notown Rx hy));have zk28:=SF.size;replace rT:=T28.r;replace rX:=TY.r;replace MQ:=(ll Xk);have hml2:(ms++[(q:Int)]).length=mn+1:=(by rw[ZL,Mz];rfl);obtain⟨ma2,mcap2,rfl⟩:=ae.slice Tf;rw[hml2] at Tf;rw[hml2]);go_roundw;case rel=>exact⟨a++[⟨⟨k0,k1,k2,k3⟩,⟨j0,j1,j2,j3⟩,cl⟩],rest,ex,ms++[(q:Int)],ζ ma2 (mn+1) mcap2,by rw[ZL,hq.out];go_num,by rw[IF.out];simp,by rw[Vp.out,ZL,hq.out];simp,Ur.out,by rw[hml2,ZL,hq.out];simp;omega,by rw[ZL,hq.out];exact λf hf=>by have:=QN f hf;simp;omega,by rw[ZL,hq.out];exact(λi hi=>by rcases ZM.1 hi with h|h;(· have:=Up i h;simp;omega);(· simp at h;subst h;simp)),ae.ko C28 (ρK:KO (λx=>x=v2.heap.size+1) v28 _) (λx hx hh e=>by have:=zC x hh;(try dsimp only at e);omega),az.ko G28 (ρK:KO (λx=>x=v2.heap.size+1) v28 _) (λy hy e=>by (try dsimp only at e);omega),ρB,bB.ko Xk (ρK:KO (λx=>x=v2.heap.size+1) v28 _) (by intro e;(try dsimp only at e);omega),ae.ko Tf (ρK:KO (λx=>x=v2.heap.size+1) v28 _) τr,SF.trans (ρK:KO (λx=>x=v2.heap.size+1) v28 _) σw⟩
     case measure=>exact ξc
    rcases th with _|_
    rotate_left
    ·go_wp2;go_roundw;case rel=>exact⟨a++[⟨⟨k0,k1,k2,k3⟩,⟨j0,j1,j2,j3⟩,cl⟩],rest,ex,ms,_,by rw[ZL,hq.out];go_num,by rw[IF.out];simp,by rw[Vp.out,ZL,hq.out];simp,Ur.out,by rw[ZL,hq.out];simp;omega,by rw[ZL,hq.out];exact λf hf=>by have:=QN f hf;simp;omega,by rw[ZL,hq.out];exact λi hi=>by have:=Up i hi;simp;omega,C27.below ρE,G27.below ρE,T27.below ρE T27.size,E27.below ρE,ae.below Rx ρE,SE.step0 ρE⟩
     case measure=>exact ξc
    go_upto_region 13 with (fail);refine bS (θ7 SE C27 G27 T27 E27 Rx Xv) ?_;clear Rr;rintro v28 ⟨SF,C28,G28,T28,Xk,Tf,TY⟩ Rr;replace rT:=T28.r;replace MQ:=(ll Xk);have qT:=af T28;have P':=λd os=>(ll (Xk.below (ZW _ d os)));have qX:=af TY;refine Ws 7 (gw ?_);refine bF (θ7 C28 G28 T28 Xk Tf TY SF) ?_;clear Rr;rintro v29 ⟨C29,G29,T29,E29,Zk,X29,UA⟩ Rr;replace rT:=T29.r;replace MQ:=(ll E29);clear qT P' qX C28 G28 T28 Xk Tf TY;obtain⟨v31,Js,E31,kb,zz,kbb⟩:=xN E29 ⟨j0,j1,j2,j3⟩ ⟨⟨j0,j1,j2,j3⟩,(q:Int)⟩ rfl (by have:=RQ.out;cases hf:bN ex ⟨j0,j1,j2,j3⟩ 0 with|none=>rfl|some p=>rw[hf] at this;cases this);have ky:KO (λx=>x=v2.heap.size) v29 v31:=qw E29 ⟨j0,j1,j2,j3⟩ Js kb zz kbb;simp only[kv,fv] at Js;go_wp2;go_roundw;case rel=>exact⟨a++[⟨⟨k0,k1,k2,k3⟩,⟨j0,j1,j2,j3⟩,cl⟩],rest,ex++[⟨⟨j0,j1,j2,j3⟩,(q:Int)⟩],ms,ζ ma mn SG,by rw[ZL,hq.out];go_num,by rw[IF.out];simp,by rw[Vp.out,ZL,hq.out];simp,Ur.out,by rw[ZL,hq.out];simp;omega,by rw[ZL,hq.out];exact(λf hf=>by rcases ZM.1 hf with h|h;(· have:=QN f h;simp;omega);(· simp at h;subst h;simp)),by rw[ZL,hq.out];exact λi hi=>by have:=Up i hi;simp;omega,(ae.ko C29 ky (λx hx hh e=>by have:=zC x hh;(try dsimp only at e);omega)).below ρE,(az.ko G29 ky (λy hy e=>by (try dsimp only at e);omega)).below ρE,T29.ko ky (by intro e;(try dsimp only at e);omega),E31.below ρE,ae.below (ae.ko Zk ky τr) ρE,(UA.trans ky σw).step0 ρE⟩
    case measure=>exact ξc
theorem Fh (w:ϖ):Calls Ψ 51 #[] w λe w'=>∃B fp,e=ϰ (pt B)/\(∀x,fp x->w.heap.size<=x)/\aY w' B fp 0/\Below w w w':=by have PG:=@run_makeMap Ψ;go_in;go_wp2_with fail;refine ZO (v:=pt (w+1+1)) (by simp[results,Tryz.results51,go_sem,pt]) rfl ?_;exact⟨w+1+1,λx=>w.heap.size<=x/\x<w.heap.size+3,rfl,λx hx=>hx.1,⟨w,w.heap.size+1,[],[],ρB,(((aA.made w).alloc _).alloc _),by have:=(aA.made (w.alloc (.map #[] 0))).alloc (.cells #[.map (some w),.map (some (w+1))] 171);simpa using this,λp hp=>by simp at hp,λp hp=>by simp at hp,by omega,by omega,by omega,by omega,λx hx=>by simp;omega⟩,ρE⟩
theorem zF {w W w1:ϖ} {B MC MR N:Nat} {LC LR:List (Int × ϗ)} {fp:Nat->Prop} {v':ϗ} (h1:ah w B #[.map (some MC),.map (some MR)] 171)(h2:aA w MC LC)(h3:aA w MR LR)(h4:∀p ∈ LC,QS w fp N p.2)(h5:∀p ∈ LR,∃a b c d e:Int,p.2=φ #[a,b,c,d,e])(h6:fp B)(h7:fp MC)(h8:fp MR)(h9:MC≠MR)(PB:∀x,fp x->x<w.heap.size)
  (hW:Below w w W) (q1:QS w1 (λx=>fp x\/(W<=x/\x<w1)) (N+1) v') (q2:∀u,QS W fp N u->QS w1 (λx=>fp x\/(W<=x/\x<w1)) (N+1) u) (q3:∃F:Nat->Prop,KO F W w1/\∀x,F x->fp x/\∃cs,ah W x cs 39) (c:Int):
  ah w1 B #[.map (some MC),.map (some MR)] 171/\aA w1 MC LC/\∃w2,(Instr.mapUpdate 168 (.map (some MC)) (ι ε c) v').run Ψ w1=.ok () w2/\ah w2 B #[.map (some MC),.map (some MR)] 171/\∃MK,(∀x,MK x->fp x\/w.heap.size<=x)/\aY w2 B MK (N+1)/\KO fp w w2:=by
 obtain⟨F,kF,hF⟩:=q3;obtain⟨kW,B1⟩:=Mw hW (θ2 (Ks (λ_=>False) w) h1);have nB:¬F B:=λh=>by obtain⟨_,cs,hb⟩:=hF B h;exact ax (dV B1 hb ρf) ρp
 have nM:∀{M L},aA W M L->¬F M:=λhm h=>by obtain⟨_,cs,hb⟩:=hF _ h;exact ax (aB hb hm) ρp
 have M1:=(h2.below hW);have R1:=h3.below hW;have B2:=B1.ko kF nB;have M2:=M1.ko kF (nM M1);have R2:=R1.ko kF (nM R1);obtain⟨w2,Js,M3,k2,z2⟩:=bz Tryz.underlying168 Θ M2 c v';have nb:∀{g cs},ah w1 g cs 39->g≠MC:=λhb=>aB hb M2;have hup:∀u,QS w1 (λx=>fp x\/(W<=x/\x<w1)) (N+1) u->QS w2 (λx=>fp x\/(W<=x/\x<w1)) (N+1) u:=λu hu=>hu.of_ko (ZR _) (λ_ h=>h) k2 (λg cs _ hb e=>nb hb e);have B3:=B2.ko k2 (aB B2 M2);refine⟨B2,M2,w2,Js,B3,λx=>fp x\/(W<=x/\x<w1),λx hx=>?_,⟨MC,MR,_,LR,B3,M3,R2.ko k2 (Ne.symm h9),λp hp=>?_,h5,.inl h6,.inl h7,.inl h8,h9,λx hx=>?_⟩,?_⟩
 ·rcases hx with h|h
  ·exact .inl h
  ·exact .inr (ZK kW.size h.1)
 ·rcases jq hp with h|h
  ·rw[h];exact hup _ q1
  ·exact hup _ (q2 _ ((h4 p h).of_ko (ZR _) (λ_ h=>h) kW (λ_ _ _ _ f=>f)))
 ·rcases hx with h|h
  ·exact ZB (PB x h) (ZK kW.size (ZK kF.size k2.size))
  ·rw[z2];exact h.2
 ·exact((KO.of_below hW).trans kF (λx _ h=>(hF x h).1)).trans k2 (λx _ h=>by rw[h];exact h7)
theorem Dj (B N:Nat)(fp:Nat->Prop)(c at_:Int)(w:ϖ)(H:aY w B fp N)(hN:N<=1000000):Calls Ψ 87 #[pt B,ι ε c,at_] w λe w'=>e=ϰ Kz/\∃MK,(∀x,MK x->fp x\/w.heap.size<=x)/\aY w' B MK (N+1)/\KO fp w w':=by
 obtain⟨MC,MR,LC,LR,H1,H2,H3,H4,H5,H6,H7,H8,H9,SX⟩:=H;have nC:=aB H1 H2;have nR:=aB H1 H3;have Q:=QS.look H4 c;obtain⟨v,hv⟩:=Nq ((lk c LC).getD Kn);rw[hv] at Q;have hl:∀{u:ϖ},aA u MC LC->(Instr.lookup 168 (.map (some MC)) (ι ε c) false).run Ψ u=.ok v u:=λhu=>by rw[<- hv];exact(am Tryz.underlying168 Θ hu c ρm).2
 have Rr:=H1.r;go_in;go_wp2_with fail;have l1:=hl (aA.drew H2);have l2:=hl (aA.drew (aA.alloc H2 (.cells #[at_] 39)));have l3:=hl (aA.alloc (aA.drew H2) (.cells #[at_] 39));go_region_held_law (λx=>∀i,x.cell? ⟨B,i,none⟩=#[.map (some MC),.map (some MR)][i]?) (first|(with_reducible exact ah.cell N0)|(with_reducible exact ah.cell Ug)|(refine λi=>(ah.cell (ah.drew (ah.alloc_old H1 _)) i).trans ?_;first|rfl|(simp;done))|(refine λi=>(ah.cell (ah.alloc_old H1 _) i).trans ?_;first|rfl|(simp;done))|exact ah.cell H1) ((refine mG ρr (.tmp 19) (.tmp 21) ρr ρr (QS.of_ko Q (ZR _) (λ_ h=>h) (KO.of_below (F:=λ_=>False) ρE) (λ_ _ _ _ f=>f)) hN (λx hx=>ZB (SX x hx) (by first|omega|(simp;done)|(simp;omega))) (X:=w.heap.size) (k:=at_) ρr ρB ?_;intro v' w1 q1 q2 q3;obtain⟨Ug,hM1,w2,Js,N0,QM⟩:=zF H1 H2 H3 H4 H5 H6 H7 H8 H9 SX ρE q1 q2 q3 c))
 all_goals
  go_wp2;go_ret;exact⟨rfl,QM⟩
theorem Dk (B N:Nat)(fp:Nat->Prop)(c d n:Int)(b:Bool)(w:ϖ)(H:aY w B fp N):Calls Ψ 131 #[pt B,ι ε c,d,ι ε n,β b] w λe w'=>(∃k:Int,e=ϰ (ι ε k))/\∃MK,(∀x,MK x->fp x\/w.heap.size<=x)/\aY w' B MK N/\KO fp w w':=by
 obtain⟨MC,MR,LC,LR,H1,H2,H3,H4,H5,H6,H7,H8,H9,SX⟩:=H;have nC:=aB H1 H2;have nR:=aB H1 H3;have Q:=QS.look H4 c;obtain⟨v,hv⟩:=Nq ((lk c LC).getD Kn);rw[hv] at Q;have hl:∀{u:ϖ},aA u MC LC->(Instr.lookup 168 (.map (some MC)) (ι ε c) false).run Ψ u=.ok v u:=λhu=>by rw[<- hv];exact(am Tryz.underlying168 Θ hu c ρm).2
 obtain⟨r0,r1,r2,r3,r4,hr⟩:∃r0 r1 r2 r3 r4:Int,(lk c LR).getD (φ #[Ky,Ky,Ky,Ky,Ky])=φ #[r0,r1,r2,r3,r4]:=by
  cases e:lk c LR with
  | none=>exact⟨0,0,0,0,0,rfl⟩
  | some u=>obtain⟨p,hp,rfl⟩:=oH e;exact H5 p hp
 have hlr:∀{u:ϖ},aA u MR LR->(Instr.lookup 169 (.map (some MR)) (ι ε c) false).run Ψ u=.ok (φ #[r0,r1,r2,r3,r4]) u:=λhu=>by rw[<- hr];exact(am Tryz.underlying169 Θ hu c ρm).2
 have l1:=hl H2;have lr1:=hlr H3;have Rr:=H1.r;have hsame:∀{u:ϖ},Below w w u->∃MK,(∀x,MK x->fp x\/w.heap.size<=x)/\aY u B MK N/\KO fp w u:=λhu=>⟨fp,λx hx=>.inl hx,(aY.below ⟨MC,MR,LC,LR,H1,H2,H3,H4,H5,H6,H7,H8,H9,SX⟩ hu),KO.of_below hu⟩;have Q2:=Q;rcases Q with rfl|⟨g,II,m,IM,cs,rfl,h1,h2,h3,h4,h5,h6,h7⟩
 ·exact ηm
 ·rcases Nat.eq_zero_or_pos m with hm|hm
  ·subst hm;exact ηm
  ·obtain⟨t,ht⟩:∃t:Int,cs[II]?=some (ι υ t):=by
    obtain⟨u,hu⟩:∃u,cs[II]?=some u:=⟨_,Array.getElem?_eq_getElem ρa⟩;obtain⟨t,rfl⟩:=h6 II u hu;exact⟨t,hu⟩
   have Np:=df ((m:Int)=0);have rG:=h1.r;have zC:=H2.size;have zR:=H3.size;have cT:=(rG.1 II).trans ht;by_cases c1:n<1
   ·have d1:=ZT c1;exact ηm
   have d1:=ZF c1;by_cases c2:d<t
   ·have d2:=ZT c2;exact ηm
   have d2:=ZF c2;clear hr hv l1 Q2;change Hid _ at H4 H5;go_in;go_upto_region 15 with (fail)
   all_goals
    go_region;go_upto_region 16 with (fail);go_region;go_upto_region 17 with (fail)
   all_goals
    refine aU w (λv=>Below w w v) (λv=>Below w w v/\∃x0 x1 x2 x3 x4:Int,ah v w #[x0,x1,x2,x3,x4] 301) ρE (λkx=>⟨kx,_,_,_,_,_,ρB⟩) ?_;rintro v1 ⟨kx,x0,x1,x2,x3,x4,X1⟩;have zx:=kx.size;obtain⟨B1,C1,R1,G1,F'⟩:=Mw kx (θ5 H1 H2 H3 h1 (Ks (λx=>x=MC\/x=MR) w));clear lr1 rG cT;have rG:=G1.r;have Ss:=θ2 B1.r X1.r;have nG:g≠MC:=aB h1 H2;have nG2:g≠MR:=aB h1 H3;refine bS (θ6 F' B1 X1 C1 R1 G1) ?_;clear Rr Ss;rintro v2 ⟨Iz,B2,X2,C2,R2,G2⟩ Rr;replace rG:=G2.r;have q:=θ3 (af B2) (af X2) (af G2);refine Ws 6 (gw ?_);refine bF (θ6 B2 X2 C2 R2 G2 Iz) ?_;clear Rr;rintro v3 ⟨B3,X3,C3,R3,G3,ID⟩ Rr;replace rG:=G3.r;clear q B2 X2 C2 R2 G2;obtain⟨v4,Js,R4,ky,zy⟩:=bz Tryz.underlying169 Θ R3 c (φ #[x0,x1,x2,x3,x4]);have B4:=B3.ko ky ρz;have X4:=X3.ko ky ρz;have C4:=C3.ko ky ρz;have G4:=G3.ko ky ρz;have IC:KO (λx=>x=MC\/x=MR) w v4:=ID.trans ky (by intro x hx e;(try dsimp only at e);first|exact .inl e|exact .inr e);replace rG:=G4.r;replace Rr:=θ2 B4.r X4.r;clear ky zy;go_upto_region 18 with (fail);have Ly:QS w fp N (if IM=1 then (ζ (some ⟨g,II,none⟩) (m - 1) 0:ϗ) else ζ (some ⟨g,II+1,none⟩) (m - 1) (IM - 1)):=by
     split
     ·exact .inr ⟨g,II,_,_,cs,rfl,h1,by omega,by omega,by omega,by omega,h6,h7⟩
     ·exact .inr ⟨g,II+1,_,_,cs,rfl,h1,by omega,by omega,by omega,by omega,h6,h7⟩
    have Ka:∀u,(Instr.sliceAt 197 (ζ (some ⟨g,II,none⟩) m IM) (some (ι ε 1)) none none).run Ψ u=.ok (if IM=1 then (ζ (some ⟨g,II,none⟩) (m - 1) 0:ϗ) else ζ (some ⟨g,II+1,none⟩) (m - 1) (IM - 1)) u:=λu=>by rw[run_sliceAt_slice _ _ _ _ _ _ ρr,run_slice_l _ _ _ _ _ ρr _ _ ρa ρa];simp[sliced,Result.andThen,go_sem,Addr.add];by_cases e:IM=1<;>simp[e]
    obtain⟨vs,hvs⟩:=Nq (if IM=1 then (ζ (some ⟨g,II,none⟩) (m - 1) 0:ϗ) else ζ (some ⟨g,II+1,none⟩) (m - 1) (IM - 1));rw[hvs] at Ly Ka;clear hvs;refine bS (θ6 IC B4 X4 C4 R4 G4) ?_;clear Rr;rintro v5 ⟨IN,B5,X5,C5,R5,G5⟩ Rr;replace rG:=G5.r;have q:=θ3 (af B5) (af X5) (af G5);refine Ws 7 (gw ?_);refine bF (θ6 B5 X5 C5 R5 G5 IN) ?_;clear Rr;rintro v6 ⟨B6,X6,C6,R6,G6,IQ⟩ Rr;replace rG:=G6.r;clear q B5 X5 C5 R5 G5;obtain⟨v7,Js,C7,ky,zy⟩:=bz Tryz.underlying168 Θ C6 c vs;have B7:=B6.ko ky ρz;have X7:=X6.ko ky ρz;have R7:=R6.ko ky ρz;have G7:=G6.ko ky ρz;have I8:KO (λx=>x=MC\/x=MR) w v7:=IQ.trans ky (by intro x hx e;(try dsimp only at e);first|exact .inl e|exact .inr e);replace rG:=G7.r;replace Rr:=θ2 B7.r X7.r;go_wp2;go_ret;refine⟨⟨_,rfl⟩,fp,λx hx=>.inl hx,aY.below ⟨MC,MR,_,_,B7,C7,R7,λp hp=>?_,λp hp=>?_,H6,H7,H8,H9,λx hx=>ZB (SX x hx) I8.size⟩ ρE,(I8.step0 ρE).mono (by intro x hx e;rcases e with rfl|rfl;exact H7;exact H8)⟩
    ·have hk:QS w fp N p.2:=by
      rcases jq hp with e|e
      ·rw[e];exact Ly
      ·exact H4.out p e
     exact hk.of_ko (ZR _) (λ_ h=>h) I8 (λg' cs' _ hb e=>by rcases e with e|e;exact aB hb H2 e;exact aB hb H3 e)
    ·rcases jq hp with e|e
     ·exact⟨_,_,_,_,_,e⟩
     ·exact H5.out p e
end Go.Proofs.YtfdlemkplejdnaaGreat
