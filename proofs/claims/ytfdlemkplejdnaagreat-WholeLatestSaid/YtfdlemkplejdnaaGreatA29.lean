/- WholeLatest, part 29. Conditions: none. -/
import Derived.Test.YtfdlemkplejdnaaGreatA14
import Derived.Test.YtfdlemkplejdnaaGreatA23
import Derived.Test.YtfdlemkplejdnaaGreatA27
import Derived.Test.YtfdlemkplejdnaaGreatA28
namespace Go.Proofs.YtfdlemkplejdnaaGreat
open Go.RowKit Go.Sort
open Value renaming int->ι,pointer->ψ,slice->ζ,tuple->χ,agg->φ,map->μ,bool->β
open IntKind renaming u64->υ,i64->ε,u16->ω
open Ending renaming returned->ϰ
open Go.Proofs.Tryz renaming prog->Ψ,underlying3->Θ,underlying147->Δ,underlying152->Γ,underlying202->Φ,underlying39->Ξ,underlying207->Ω
open Go renaming World->ϖ,Value->ϗ
set_option linter.unusedVariables false
set_option linter.unusedSimpArgs false
set_option maxHeartbeats 8000000
set_option maxRecDepth 100000
def eI (k:Int)(x:CD)(L:List CD):List CD:=if k=2 then rz x.id L else fD x L
theorem Ax (A T M:Nat)(L:List CD)(x:CD)(w:ϖ)(A0:ah w A #[T] 145)(H:aF w T M L)(hL:L.length<=1000):Calls Ψ 142 #[φ (fh x),A] w λe w'=>∃n L',e=ϰ (ι ε n)/\aF w' T M L'/\(n=0->L'=rz x.id L)/\(n≠0->L'=L)/\KO (λy=>y=M) w w':=by
 have zT:=H.1.size;have zM:=H.2.1.size;have Rr:=A0.r;go_in;go_wp2_with fail;refine Calls.mono (IC T M L x.id _ (H.below ρE) hL) ?_;rintro e v ⟨n,L',rfl,H2,h1,h2,kx⟩;refine δO ?_;intro k2 z2;clear kx;go_wp2;go_ret;exact⟨n,L',rfl,H2.below ρE,h1,h2,k2.step0 ρE⟩
theorem CC (T M:Nat)(L:List CD)(k:Int)(hk:k=1)(x:CD)(xs:List Int)(hu:dB L x.par xs)(Kq:xs.length<=1000)(w:ϖ)(H:aF w T M L)(hL:L.length<=1000)(hr:(0<=x.r0/\0<=x.r1/\0<=x.r2)/\(0<=x.l0/\0<=x.l1/\0<=x.l2)/\(0<=x.u0/\0<=x.u1/\0<=x.u2)):Calls Ψ 107 #[T,φ #[ι ε k,ι ε x.id,ι ε x.par,β x.lf,x.r0,x.r1,x.r2,x.l0,x.l1,x.l2,x.u0,x.u1,x.u2,ι ε x.pk,ι ε x.by_]] w λe w'=>∃n L',e=ϰ (ι ε n)/\aF w' T M L'/\(n=0->L'=eI k x L/\(k=1\/k=3->x.ok))/\(n≠0->L'=L)/\(uS x L xs->n=0)/\KO (λy=>y=M) w w':=by
 have zT:=H.1.size;have zM:=H.2.1.size;subst hk;go_in;go_wp2_with fail;refine Calls.mono (F2 T M L x xs _ (H.below ρE) hL hr hu Kq) ?_;rintro e v ⟨n,L',rfl,H2,h1,h2,hg,kx⟩;refine δO ?_;intro k2 z2;clear kx;go_wp2;go_ret;exact⟨n,L',rfl,H2.below ρE,λh=>⟨by rw[(h1 h).1];simp[eI],λ_=>(h1 h).2⟩,h2,hg,k2.step0 ρE⟩
theorem Fs (T M:Nat)(L:List CD)(k:Int)(hk:k=3)(x:CD)  (w:ϖ)(H:aF w T M L)(hL:L.length<=1000)(hr:(0<=x.r0/\0<=x.r1/\0<=x.r2)/\(0<=x.l0/\0<=x.l1/\0<=x.l2)/\(0<=x.u0/\0<=x.u1/\0<=x.u2)):Calls Ψ 107 #[T,φ #[ι ε k,ι ε x.id,ι ε x.par,β x.lf,x.r0,x.r1,x.r2,x.l0,x.l1,x.l2,x.u0,x.u1,x.u2,ι ε x.pk,ι ε x.by_]] w λe w'=>∃n L',e=ϰ (ι ε n)/\aF w' T M L'/\(n=0->L'=eI k x L/\(k=1\/k=3->x.ok))/\(n≠0->L'=L)/\KO (λy=>y=M) w w':=by
 have zT:=H.1.size;have zM:=H.2.1.size;subst hk;go_in;go_wp2_with fail;refine Calls.mono (IE T M L x _ (H.below ρE) hL hr) ?_;rintro e v ⟨n,L',rfl,H2,h1,h2,kx⟩;refine δO ?_;intro k2 z2;clear kx;go_wp2;go_ret;exact⟨n,L',rfl,H2.below ρE,λh=>⟨by rw[(h1 h).1];simp[eI],λ_=>(h1 h).2⟩,h2,k2.step0 ρE⟩
theorem Fr (T M:Nat)(L:List CD)(k:Int)(hk:k=2)(x:CD)  (w:ϖ)(H:aF w T M L)(hL:L.length<=1000)(hr:(0<=x.r0/\0<=x.r1/\0<=x.r2)/\(0<=x.l0/\0<=x.l1/\0<=x.l2)/\(0<=x.u0/\0<=x.u1/\0<=x.u2)):Calls Ψ 107 #[T,φ #[ι ε k,ι ε x.id,ι ε x.par,β x.lf,x.r0,x.r1,x.r2,x.l0,x.l1,x.l2,x.u0,x.u1,x.u2,ι ε x.pk,ι ε x.by_]] w λe w'=>∃n L',e=ϰ (ι ε n)/\aF w' T M L'/\(n=0->L'=eI k x L/\(k=1\/k=3->x.ok))/\(n≠0->L'=L)/\KO (λy=>y=M) w w':=by
 have zT:=H.1.size;have zM:=H.2.1.size;subst hk;go_in;go_wp2_with fail;refine Calls.mono (Ax _ T M L x _ ρB (H.below ρE) hL) ?_;rintro e v ⟨n,L',rfl,H2,h1,h2,kx⟩;refine δO ?_;intro k2 z2;clear kx;go_wp2;go_ret;exact⟨n,L',rfl,H2.below ρE,λh=>⟨by rw[h1 h];simp[eI],λh=>by omega⟩,h2,k2.step0 ρE⟩
theorem Fq (T M:Nat)(L:List CD)(k:Int)(hk:k≠1/\k≠3/\k≠2)(x:CD)  (w:ϖ)(H:aF w T M L)(hL:L.length<=1000)(hr:(0<=x.r0/\0<=x.r1/\0<=x.r2)/\(0<=x.l0/\0<=x.l1/\0<=x.l2)/\(0<=x.u0/\0<=x.u1/\0<=x.u2)):Calls Ψ 107 #[T,φ #[ι ε k,ι ε x.id,ι ε x.par,β x.lf,x.r0,x.r1,x.r2,x.l0,x.l1,x.l2,x.u0,x.u1,x.u2,ι ε x.pk,ι ε x.by_]] w λe w'=>∃n L',e=ϰ (ι ε n)/\aF w' T M L'/\(n=0->L'=eI k x L/\(k=1\/k=3->x.ok))/\(n≠0->L'=L)/\KO (λy=>y=M) w w':=by
 have zT:=H.1.size;have zM:=H.2.1.size;go_in;have d1:(k==1)=false:=ρ6;have d3:(k==3)=false:=ρ6;have d2:(k==2)=false:=ρ6;go_wp2;go_ret;exact⟨1,L,rfl,H.below ρE,by omega,λ_=>rfl,(KO.of_below ρE)⟩
theorem rK (x:CD):∀L:List CD,(fD x L).length<=L.length+1
 | []=>by simp[fD]
 | c::r=>by
  have:=rK x r;unfold fD;split
  ·simp
  ·simp;omega
theorem yF (id:Int)(L:List CD):(rz id L).length<=L.length:=qH _ _
theorem rF (k:Int)(x:CD)(L:List CD):(eI k x L).length<=L.length+1:=by
 unfold eI;split
 ·have:=yF x.id L;omega
 ·exact rK x L
theorem oN {L:List CD} {rk:Int->Nat} (h:∀id c,fc L id=some c->fc L c.par=none\/rk c.par<rk id):∀n id,rk id<=n->∃xs,dB L id xs/\xs.length<=n+1
 | n,id,hr=>by
  cases hc:fc L id with
  | none=>exact⟨[],hc,by simp⟩
  | some c=>
   rcases h id c hc with h0|h0
   ·exact⟨[id],⟨c,hc,rfl,h0⟩,by simp⟩
   ·cases n with
    | zero=>omega
    | succ m=>obtain⟨xs,h1,h2⟩:=oN h m c.par ρa;exact⟨id::xs,⟨c,hc,rfl,h1⟩,by simp;omega⟩
def pX (c:Int × CD):List ϗ:=[ι ε c.1,ι ε c.2.id,ι ε c.2.par,β c.2.lf,c.2.r0,c.2.r1,c.2.r2,c.2.l0,c.2.l1,c.2.l2,c.2.u0,c.2.u1,c.2.u2,ι ε c.2.pk,ι ε c.2.by_]
def xH:List (Int × CD)->List CD->Prop
 | [],_=>True
 | c::r,L=>(c.1=1->∃xs,dB L c.2.par xs/\xs.length<=900)/\xH r (eI c.1 c.2 L)
theorem qq {c:CD} (h:dv (kd c.r0 c.r1 c.r2)=true)(h0:0<=c.r0/\0<=c.r1/\0<=c.r2):dk c.r0 c.r1 c.r2:=by
 have h1:kd c.r0 c.r1 c.r2≠0:=by intro e;rw[e] at h;exact ax h ρf
 have:=gk h1;exact⟨h1,by omega,by omega,by omega⟩
theorem wB {L:List CD} {p:CD->Bool} (h:(L.map CD.id).Nodup) {y:Int} (hy:y ∈ aN p L):∃c,fc L y=some c/\p c=true:=by
 unfold aN at hy;rw[List.mem_mergeSort,List.mem_map] at hy;obtain⟨c,hc,rfl⟩:=hy;rw[qE] at hc;refine⟨c,?_,hc.2⟩;have:∀(L:List CD),(L.map CD.id).Nodup->c ∈ L->fc L c.id=some c:=by
  intro L
  induction L with
  | nil=>intro _ h;cases h
  | cons a r ih=>
   intro hn hm;rw[eJ,qD] at hn;unfold fc;rcases qC.1 hm with e|e
   ·rw[e,qP rfl]
   ·rw[qI (λe2=>hn.1 (by rw[<- e2];exact List.mem_map_of_mem e))];exact ih hn.2 e
 exact this L h hc.1
def ti:Prop:=∀(t:Int)(v:ϗ)(l:List CD)(w:ϖ)(base:Nat),ae 41 3 fx w base v l->(1<=t/\t<=65536)->l.length<=49->(∀c ∈ l,dk c.r0 c.r1 c.r2)->Calls Ψ 108 #[ι ε t,v] w λe w'=>∃n,e=ϰ (ι ε n)/\Below w w w'/\(l=[]->n=0)
def qf:List (Int × CD)->List CD->Prop
 | [],L=>aN (λc:CD=>dv (kd c.r0 c.r1 c.r2)) L=[]
 | c::r,L=>c.1=1/\(∀ys,dB L c.2.par ys->uS c.2 L ys)/\qf r (eI c.1 c.2 L)
theorem yu {P:Prop} (hP:¬P) {f:FuncId} {args:Array ϗ} {w:ϖ} {A:Int->List CD->ϖ->Prop} {B C:Int->List CD->Prop} {D:ϖ->Prop} (h:Calls Ψ f args w λe w'=>∃n L',e=ϰ (ι ε n)/\A n L' w'/\B n L'/\C n L'/\D w'):Calls Ψ f args w λe w'=>∃n L',e=ϰ (ι ε n)/\A n L' w'/\B n L'/\C n L'/\(P->n=0)/\D w':=by
 refine h.mono ?_;rintro e w' ⟨n,L',rfl,h1,h2,h3,h4⟩;exact⟨n,L',rfl,h1,h2,h3,λq=>ax q hP,h4⟩
theorem sU (hF:ti)(T M:Nat)(L:List CD)(t:Int)(v:ϗ)(xs:List (Int × CD))(B:Nat)(w:ϖ)(H:aF w T M L)(ht:1<=t/\t<=65536)(hL:L.length<=10)(G:aK 15 pX w B v xs)(zB:B<=w)(K8:xH xs L)(LD:∀c ∈ xs,(0<=c.2.r0/\0<=c.2.r1/\0<=c.2.r2)/\(0<=c.2.l0/\0<=c.2.l1/\0<=c.2.l2)/\(0<=c.2.u0/\0<=c.2.u1/\0<=c.2.u2))(Kq:xs.length<=1000000):Calls Ψ 76 #[T,ι ε t,v] w λe w'=>∃u i n,e=ϰ (χ #[u,ι ε i,ι ε n])/\(n=0->∃T' M',u=ψ (some ⟨T',0,none⟩)/\w.heap.size<=T'/\w.heap.size<=M'/\aF w' T' M' (xs.foldl (λL c=>eI c.1 c.2 L) L))/\(qf xs L->xs.length<=32->n=0)/\Below w w w':=by
 obtain⟨oa,oc,rfl,-⟩:=G.slice;obtain⟨n,hn⟩:=Nq xs.length;rw[hn] at G Kq ⊢;have zT:=H.1.size;have zM:=H.2.1.size;have d1:=df (t<1);have d2:=df (65536<t);go_in;go_upto_region 5 with (fail);by_cases h32:32<n
 ·have d3:=dt ((32:Int)<(n:Int));go_wp2;refine qO (v:=χ #[Kp,Kz,ι ε 2]) τK rfl ?_;exact⟨ψ none,0,2,rfl,λh=>ax h ρa,λ_ h=>ax h ρa,ρE⟩
 have d3:=df ((32:Int)<(n:Int));go_wp2_with fail;refine(F3 T M L _ (H.below ρE)).mono ?_;rintro e vb ⟨T2,M2,rfl,H1,zT2,zM2,k1⟩;have b1:Below w w vb:=Below.trans ρE (k1.mono ρp);have G1:=G.belowK b1 zB;have zM2':w<=M2:=by (try simp at zM2);omega
 have zT2':w<=T2:=by (try simp at zT2);omega
 have z1:=b1.size;clear k1 zT2 zM2;replace hn:=ag hn;go_wp2_with fail;go_loopw [32] (λk wr=>∃(a b:List (Int × CD)) (Lr:List CD),k=ι ε (a.length:Nat)/\xs=a++b/\Lr=a.foldl (λL c=>eI c.1 c.2 L) L/\Lr.length<=L.length+a.length/\xH b Lr/\(qf xs L->qf b Lr)/\aF wr T2 M2 Lr/\aK 15 pX wr B (ζ oa n oc) xs/\KO (λy=>y=M2) vb wr) (λk _=>n - (intOf k).toNat);case atStart=>exact⟨[],xs,L,rfl,rfl,rfl,by simp,K8,λh=>h,H1,G1,KO.refl _ _⟩
 case round=>
  obtain⟨a,b,Lr,rfl,WP,hLr,KC,hcb,hgb,T0,G0,Kj⟩:=hrel;replace hgb:=ag hgb;have zw:=Kj.size;clear G1 H1;have Kv:a.length+b.length=n:=by rw[<- hn.out,WP,qL]
  obtain⟨q,hq⟩:=Nq a.length;rw[hq] at Kv KC ⊢;have kb:KO (λ_=>False) w wr:=(KO.of_below (F:=λ_=>False) b1).trans Kj (by intro y hy h;(try dsimp only at h);omega);have zTr:=T0.1.size;have zMr:=T0.2.1.size;have Xv:Lr.length<=1000:=ρa;have hL49:Lr.length<=49:=ρa;have Ob:=gE T0;cases b with
  | nil=>
   refine η6 ?_;intro Ku hd;have ha:a=xs:=by rw[WP,qA]
   change Hid _ at Kv hq WP ha hLr hcb;go_wp2_with fail;refine(Ee T2 M2 Lr _ (T0.below ρE) Xv).mono ?_;rintro e v4 ⟨u,rfl,R4,k4⟩;have b4:Below wr wr v4:=Below.trans ρE (k4.mono ρp);have T4:=T0.below b4;have z4:=b4.size;clear k4;go_wp2_with fail;refine Calls.mono (hF t _ _ _ _ (ae.below R4 ρE) ⟨ht.1,ht.2⟩ ?_ ?_) ?_
   ·rw[nl];unfold aN;rw[List.length_mergeSort,nl];exact qK (qH _ _) hL49
   ·intro c hc;obtain⟨i,hi,rfl⟩:=List.mem_map.1 hc;obtain⟨d,Np,hp⟩:=wB Ob hi;unfold dP;rw[Np];exact qq hp (T0.2.2 d (aM Np).1).2.2.1
   rintro e v5 ⟨m,rfl,k5,OV⟩;have b5:Below v4 v4 v5:=Below.trans ρE (k5.mono ρp);have T5:=T4.below b5;have z5:=b5.size;have Kw:KO (λ_=>False) w v5:=(kb.step0 b4).step0 b5;clear k5 kb Kj;by_cases h0:m=0
   ·subst h0;go_wp2_with fail;refine qO (v:=χ #[T2,Kz,Kz]) τK rfl ?_;refine⟨_,0,0,rfl,λ_=>⟨T2,M2,rfl,zT2',zM2',?_⟩,λ_ _=>rfl,(Kw.step0 ρE).toBelow⟩;rw[<- ha.out,<- hLr.out];exact T5.below ρE
   ·have e0:(m==0)=false:=by rw[qN];exact h0
    have e1:(m !=0)=true:=by simp[h0]
    go_wp2_with fail;refine qO (v:=χ #[Kp,Kz,ι ε m]) τK rfl ?_;exact⟨_,0,m,rfl,λh=>ax h h0,λg _=>OV (by rw[show aN (λc:CD=>dv (kd c.r0 c.r1 c.r2)) Lr=[] from hgb.out g];rfl),(Kw.step0 ρE).toBelow⟩
  | cons kx r=>
   obtain⟨k,x⟩:=kx;refine δH ?_;intro Ku hd;have NI:xs[q]?=some (k,x):=by rw[WP,<- hq];simp
   obtain⟨hs,YO⟩:=hcb;have VW:=LD (k,x) (by rw[WP];simp);obtain⟨g,off,rfl,hg,RA⟩:=G0.at NI;have hLr1:eI k x Lr=(a++[(k,x)]).foldl (λL c=>eI c.1 c.2 L) L:=by rw[List.foldl_append,<- hLr];rfl
   have Om:=rF k x Lr;change Hid _ at Kv hq WP hLr hLr1 YO;go_upto_region 10 with (fail);go_wp2_with (refine Go.wpList_load_mid rfl 86 _ rfl g (off+q*15) rfl (pX (k,x)) _ RA Tryz.underlying86 rfl ρi ?_;try simp only[pX,List.toArray]);refine Zc (θ3 Kj T0 G0) ?_;rintro v1 ⟨I',T1,G1⟩;have XM:Calls Ψ 107 #[T2,φ #[ι ε k,ι ε x.id,ι ε x.par,β x.lf,x.r0,x.r1,x.r2,x.l0,x.l1,x.l2,x.u0,x.u1,x.u2,ι ε x.pk,ι ε x.by_]] v1 λe w'=>∃n L',e=ϰ (ι ε n)/\aF w' T2 M2 L'/\(n=0->L'=eI k x Lr/\(k=1\/k=3->x.ok))/\(n≠0->L'=Lr)/\(qf ((k,x)::r) Lr->n=0)/\KO (λy=>y=M2) v1 w':=by
    by_cases e1:k=1
    ·obtain⟨ys,hu,hul⟩:=hs e1;refine(CC T2 M2 Lr k e1 x ys hu ρa _ T1 Xv VW).mono ?_;rintro e w' ⟨n,L',rfl,q1,q2,q3,q4,q5⟩;exact⟨n,L',rfl,q1,q2,q3,λg=>q4 (g.2.1 ys hu),q5⟩
    ·by_cases e3:k=3
     ·exact yu (λg=>e1 g.1) (Fs T2 M2 Lr k e3 x _ T1 Xv VW)
     ·by_cases e2:k=2
      ·exact yu (λg=>e1 g.1) (Fr T2 M2 Lr k e2 x _ T1 Xv VW)
      ·exact yu (λg=>e1 g.1) (Fq T2 M2 Lr k ⟨e1,e3,e2⟩ x _ T1 Xv VW)
   refine Calls.mono XM ?_;rintro e v2 ⟨m,L',rfl,T2',h1,h2,hgo,kx⟩;clear XM;have G2:=G1.ko kx (λy hy h=>by (try dsimp only at h);omega);have J':=I'.trans kx (λy hy h=>h);have z2:=J'.size;clear kx;by_cases h0:m=0
   ·subst h0;obtain⟨rfl,-⟩:=h1 rfl;go_wp2;go_roundw;case rel=>exact⟨a++[(k,x)],r,_,by rw[qL,hq.out];go_num,by rw[WP.out];simp,hLr1.out,by rw[qL,hq.out];simp;omega,YO.out,λg=>(hgb.out g).2.2,T2'.below ρE,G2.below ρE,J'.step0 ρE⟩
    case measure=>exact ξb
   ·have e0:(m==0)=false:=by rw[qN];exact h0
    have e1:(m !=0)=true:=by simp[h0]
    have kz:KO (λ_=>False) w v2:=(KO.of_below (F:=λ_=>False) b1).trans J' (by intro y hy h;(try dsimp only at h);omega);go_wp2_with fail;refine qO (v:=χ #[Kp,ι ε (q:Nat),ι ε m]) τK rfl ?_;exact⟨_,_,m,rfl,λh=>ax h h0,λg _=>hgo (hgb.out g),(kz.step0 ρE).toBelow⟩
theorem CA (hF:ti)(T M:Nat)(L:List CD)(t:Int)(v:ϗ)(xs:List (Int × CD))(B:Nat)(w:ϖ)(H:aF w T M L)(ht:1<=t/\t<=65536)(hL:L.length<=10)(G:aK 15 pX w B v xs)(zB:B<=w)(K8:xH xs L)(LD:∀c ∈ xs,(0<=c.2.r0/\0<=c.2.r1/\0<=c.2.r2)/\(0<=c.2.l0/\0<=c.2.l1/\0<=c.2.l2)/\(0<=c.2.u0/\0<=c.2.u1/\0<=c.2.u2))(Kq:xs.length<=1000000):Calls Ψ 76 #[T,ι ε t,v] w λe w'=>∃u i n,e=ϰ (χ #[u,ι ε i,ι ε n])/\(n=0->∃T' M',u=ψ (some ⟨T',0,none⟩)/\w.heap.size<=T'/\w.heap.size<=M'/\aF w' T' M' (xs.foldl (λL c=>eI c.1 c.2 L) L))/\Below w w w':=by
 refine(sU hF T M L t v xs B w H ht hL G zB K8 LD Kq).mono ?_;rintro e w' ⟨u,i,n,rfl,h1,_,h2⟩;exact⟨u,i,n,rfl,h1,h2⟩
theorem GU (w:ϖ):Calls Ψ 51 #[] w λe w'=>∃B fp,e=ϰ (pt B)/\(∀x,fp x->w.heap.size<=x)/\aY w' B fp 0/\Below w w w':=by have UV:=@run_makeMap Ψ;go_in;go_wp2_with fail;refine qO (v:=pt (w+1+1)) (by simp[results,Tryz.results51,go_sem,pt]) rfl ?_;exact⟨w+1+1,λx=>w.heap.size<=x/\x<w.heap.size+3,rfl,λx hx=>hx.1,⟨w,w.heap.size+1,[],[],ρB,(((aB.made w).alloc _).alloc _),by have:=(aB.made (w.alloc (.map #[] 0))).alloc (.cells #[.map (some w),.map (some (w+1))] 171);simpa using this,λp hp=>by simp at hp,λp hp=>by simp at hp,by omega,by omega,by omega,by omega,λx hx=>by simp;omega⟩,ρE⟩
theorem Bt {w W w1:ϖ} {B MC MR N:Nat} {LC LR:List (Int × ϗ)} {fp:Nat->Prop} {v':ϗ} (h1:ah w B #[.map (some MC),.map (some MR)] 171)(h2:aB w MC LC)(h3:aB w MR LR)(h4:∀p ∈ LC,QS w fp N p.2)(h5:∀p ∈ LR,∃a b c d e:Int,p.2=φ #[a,b,c,d,e])(h6:fp B)(h7:fp MC)(h8:fp MR)(h9:MC≠MR)(Rj:∀x,fp x->x<w.heap.size)
  (hW:Below w w W) (q1:QS w1 (λx=>fp x\/(W<=x/\x<w1)) (N+1) v') (q2:∀u,QS W fp N u->QS w1 (λx=>fp x\/(W<=x/\x<w1)) (N+1) u) (q3:∃F:Nat->Prop,KO F W w1/\∀x,F x->fp x/\∃cs,ah W x cs 39) (c:Int):
  ah w1 B #[.map (some MC),.map (some MR)] 171/\aB w1 MC LC/\∃w2,(Instr.mapUpdate 168 (.map (some MC)) (ι ε c) v').run Ψ w1=.ok () w2/\ah w2 B #[.map (some MC),.map (some MR)] 171/\∃Oj,(∀x,Oj x->fp x\/w.heap.size<=x)/\aY w2 B Oj (N+1)/\KO fp w w2:=by
 obtain⟨F,kF,hF⟩:=q3;obtain⟨kW,B1⟩:=Mw hW (θ2 (Ks (λ_=>False) w) h1);have nB:¬F B:=λh=>by obtain⟨_,cs,hb⟩:=hF B h;exact ax (eq B1 hb ρf) ρp
 have nM:∀{M L},aB W M L->¬F M:=λhm h=>by obtain⟨_,cs,hb⟩:=hF _ h;exact ax (aC hb hm) ρp
 have M1:=(h2.below hW);have R1:=h3.below hW;have B2:=B1.ko kF nB;have M2:=M1.ko kF (nM M1);have R2:=R1.ko kF (nM R1);obtain⟨w2,Ld,M3,k2,z2⟩:=bv Tryz.underlying168 Θ M2 c v';have nb:∀{g cs},ah w1 g cs 39->g≠MC:=λhb=>aC hb M2;have hup:∀u,QS w1 (λx=>fp x\/(W<=x/\x<w1)) (N+1) u->QS w2 (λx=>fp x\/(W<=x/\x<w1)) (N+1) u:=λu hu=>hu.of_ko (qR _) (λ_ h=>h) k2 (λg cs _ hb e=>nb hb e);have B3:=B2.ko k2 (aC B2 M2);refine⟨B2,M2,w2,Ld,B3,λx=>fp x\/(W<=x/\x<w1),λx hx=>?_,⟨MC,MR,_,LR,B3,M3,R2.ko k2 (Ne.symm h9),λp hp=>?_,h5,.inl h6,.inl h7,.inl h8,h9,λx hx=>?_⟩,?_⟩
 ·rcases hx with h|h
  ·exact .inl h
  ·exact .inr (qK kW.size h.1)
 ·rcases jI hp with h|h
  ·rw[h];exact hup _ q1
  ·exact hup _ (q2 _ ((h4 p h).of_ko (qR _) (λ_ h=>h) kW (λ_ _ _ _ f=>f)))
 ·rcases hx with h|h
  ·exact qB (Rj x h) (qK kW.size (qK kF.size k2.size))
  ·rw[z2];exact h.2
 ·exact((KO.of_below hW).trans kF (λx _ h=>(hF x h).1)).trans k2 (λx _ h=>by rw[h];exact h7)
theorem Fc (B N:Nat)(fp:Nat->Prop)(c at_:Int)(w:ϖ)(H:aY w B fp N)(hN:N<=1000000):Calls Ψ 87 #[pt B,ι ε c,at_] w λe w'=>e=ϰ Kz/\∃Oj,(∀x,Oj x->fp x\/w.heap.size<=x)/\aY w' B Oj (N+1)/\KO fp w w':=by
 obtain⟨MC,MR,LC,LR,H1,H2,H3,H4,H5,H6,H7,H8,H9,UC⟩:=H;have nC:=aC H1 H2;have nR:=aC H1 H3;have Q:=QS.look H4 c;obtain⟨v,hv⟩:=Nq ((lk c LC).getD Kn);rw[hv] at Q;have hl:∀{u:ϖ},aB u MC LC->(Instr.lookup 168 (.map (some MC)) (ι ε c) false).run Ψ u=.ok v u:=λhu=>by rw[<- hv];exact(am Tryz.underlying168 Θ hu c ρm).2
 have Rr:=H1.r;go_in;go_wp2_with fail;have l1:=hl (aB.drew H2);have l2:=hl (aB.drew (aB.alloc H2 (.cells #[at_] 39)));have l3:=hl (aB.alloc (aB.drew H2) (.cells #[at_] 39));go_region_held_law (λx=>∀i,x.cell? ⟨B,i,none⟩=#[.map (some MC),.map (some MR)][i]?) (first|(with_reducible exact ah.cell PI)|(with_reducible exact ah.cell VI)|(refine λi=>(ah.cell (ah.drew (ah.alloc_old H1 _)) i).trans ?_;first|rfl|(simp;done))|(refine λi=>(ah.cell (ah.alloc_old H1 _) i).trans ?_;first|rfl|(simp;done))|exact ah.cell H1) ((refine ny ρs (.tmp 19) (.tmp 21) ρs ρs (QS.of_ko Q (qR _) (λ_ h=>h) (KO.of_below (F:=λ_=>False) ρE) (λ_ _ _ _ f=>f)) hN (λx hx=>qB (UC x hx) (by first|omega|(simp;done)|(simp;omega))) (X:=w.heap.size) (k:=at_) ρs ρB ?_;intro v' w1 q1 q2 q3;obtain⟨VI,hM1,w2,Ld,PI,SC⟩:=Bt H1 H2 H3 H4 H5 H6 H7 H8 H9 UC ρE q1 q2 q3 c))
 all_goals
  go_wp2;go_ret;exact⟨rfl,SC⟩
theorem Fe (B N:Nat)(fp:Nat->Prop)(c d n:Int)(b:Bool)(w:ϖ)(H:aY w B fp N):Calls Ψ 131 #[pt B,ι ε c,d,ι ε n,β b] w λe w'=>(∃k:Int,e=ϰ (ι ε k))/\∃Oj,(∀x,Oj x->fp x\/w.heap.size<=x)/\aY w' B Oj N/\KO fp w w':=by
 obtain⟨MC,MR,LC,LR,H1,H2,H3,H4,H5,H6,H7,H8,H9,UC⟩:=H;have nC:=aC H1 H2;have nR:=aC H1 H3;have Q:=QS.look H4 c;obtain⟨v,hv⟩:=Nq ((lk c LC).getD Kn);rw[hv] at Q;have hl:∀{u:ϖ},aB u MC LC->(Instr.lookup 168 (.map (some MC)) (ι ε c) false).run Ψ u=.ok v u:=λhu=>by rw[<- hv];exact(am Tryz.underlying168 Θ hu c ρm).2
 obtain⟨r0,r1,r2,r3,r4,hr⟩:∃r0 r1 r2 r3 r4:Int,(lk c LR).getD (φ #[Ky,Ky,Ky,Ky,Ky])=φ #[r0,r1,r2,r3,r4]:=by
  cases e:lk c LR with
  | none=>exact⟨0,0,0,0,0,rfl⟩
  | some u=>obtain⟨p,hp,rfl⟩:=pB e;exact H5 p hp
 have hlr:∀{u:ϖ},aB u MR LR->(Instr.lookup 169 (.map (some MR)) (ι ε c) false).run Ψ u=.ok (φ #[r0,r1,r2,r3,r4]) u:=λhu=>by rw[<- hr];exact(am Tryz.underlying169 Θ hu c ρm).2
 have l1:=hl H2;have lr1:=hlr H3;have Rr:=H1.r;have MX:∀{u:ϖ},Below w w u->∃Oj,(∀x,Oj x->fp x\/w.heap.size<=x)/\aY u B Oj N/\KO fp w u:=λhu=>⟨fp,λx hx=>.inl hx,(aY.below ⟨MC,MR,LC,LR,H1,H2,H3,H4,H5,H6,H7,H8,H9,UC⟩ hu),KO.of_below hu⟩;have Q2:=Q;rcases Q with rfl|⟨g,off,m,Kt,cs,rfl,h1,h2,h3,h4,h5,h6,h7⟩
 ·exact ηn
 ·rcases Nat.eq_zero_or_pos m with hm|hm
  ·subst hm;exact ηn
  ·obtain⟨t,ht⟩:∃t:Int,cs[off]?=some (ι υ t):=by
    obtain⟨u,hu⟩:∃u,cs[off]?=some u:=⟨_,Array.getElem?_eq_getElem ρa⟩;obtain⟨t,rfl⟩:=h6 off u hu;exact⟨t,hu⟩
   have OV:=df ((m:Int)=0);have rG:=h1.r;have zC:=H2.size;have zR:=H3.size;have cT:=(rG.1 off).trans ht;by_cases c1:n<1
   ·have d1:=qT c1;exact ηn
   have d1:=qF c1;by_cases c2:d<t
   ·have d2:=qT c2;exact ηn
   have d2:=qF c2;clear hr hv l1 Q2;change Hid _ at H4 H5;go_in;go_upto_region 15 with (fail)
   all_goals
    go_region;go_upto_region 16 with (fail);go_region;go_upto_region 17 with (fail)
   all_goals
    refine aV w (λv=>Below w w v) (λv=>Below w w v/\∃x0 x1 x2 x3 x4:Int,ah v w #[x0,x1,x2,x3,x4] 301) ρE (λkx=>⟨kx,_,_,_,_,_,ρB⟩) ?_;rintro v1 ⟨kx,x0,x1,x2,x3,x4,X1⟩;have zx:=kx.size;obtain⟨B1,C1,R1,G1,I'⟩:=Mw kx (θ5 H1 H2 H3 h1 (Ks (λx=>x=MC\/x=MR) w));clear lr1 rG cT;have rG:=G1.r;have Ss:=θ2 B1.r X1.r;have nG:g≠MC:=aC h1 H2;have nG2:g≠MR:=aC h1 H3;refine bR (θ6 I' B1 X1 C1 R1 G1) ?_;clear Rr Ss;rintro v2 ⟨J',B2,X2,C2,R2,G2⟩ Rr;replace rG:=G2.r;have q:=θ3 (af B2) (af X2) (af G2);refine Ws 6 (gH ?_);refine bE (θ6 B2 X2 C2 R2 G2 J') ?_;clear Rr;rintro v3 ⟨B3,X3,C3,R3,G3,Kk⟩ Rr;replace rG:=G3.r;clear q B2 X2 C2 R2 G2;obtain⟨v4,Ld,R4,ky,zy⟩:=bv Tryz.underlying169 Θ R3 c (φ #[x0,x1,x2,x3,x4]);have B4:=B3.ko ky ρw;have X4:=X3.ko ky ρw;have C4:=C3.ko ky ρw;have G4:=G3.ko ky ρw;have Km:KO (λx=>x=MC\/x=MR) w v4:=Kk.trans ky (by intro x hx e;(try dsimp only at e);first|exact .inl e|exact .inr e);replace rG:=G4.r;replace Rr:=θ2 B4.r X4.r;clear ky zy;go_upto_region 18 with (fail);have NU:QS w fp N (if Kt=1 then (ζ (some ⟨g,off,none⟩) (m - 1) 0:ϗ) else ζ (some ⟨g,off+1,none⟩) (m - 1) (Kt - 1)):=by
     split
     ·exact .inr ⟨g,off,_,_,cs,rfl,h1,by omega,by omega,by omega,by omega,h6,h7⟩
     ·exact .inr ⟨g,off+1,_,_,cs,rfl,h1,by omega,by omega,by omega,by omega,h6,h7⟩
    have MK:∀u,(Instr.sliceAt 197 (ζ (some ⟨g,off,none⟩) m Kt) (some (ι ε 1)) none none).run Ψ u=.ok (if Kt=1 then (ζ (some ⟨g,off,none⟩) (m - 1) 0:ϗ) else ζ (some ⟨g,off+1,none⟩) (m - 1) (Kt - 1)) u:=λu=>by rw[run_sliceAt_slice _ _ _ _ _ _ ρs,run_slice_l _ _ _ _ _ ρs _ _ ρa ρa];simp[sliced,Result.andThen,go_sem,Addr.add];by_cases e:Kt=1<;>simp[e]
    obtain⟨vs,hvs⟩:=Nq (if Kt=1 then (ζ (some ⟨g,off,none⟩) (m - 1) 0:ϗ) else ζ (some ⟨g,off+1,none⟩) (m - 1) (Kt - 1));rw[hvs] at NU MK;clear hvs;refine bR (θ6 Km B4 X4 C4 R4 G4) ?_;clear Rr;rintro v5 ⟨Kw,B5,X5,C5,R5,G5⟩ Rr;replace rG:=G5.r;have q:=θ3 (af B5) (af X5) (af G5);refine Ws 7 (gH ?_);refine bE (θ6 B5 X5 C5 R5 G5 Kw) ?_;clear Rr;rintro v6 ⟨B6,X6,C6,R6,G6,KH⟩ Rr;replace rG:=G6.r;clear q B5 X5 C5 R5 G5;obtain⟨v7,Ld,C7,ky,zy⟩:=bv Tryz.underlying168 Θ C6 c vs;have B7:=B6.ko ky ρw;have X7:=X6.ko ky ρw;have R7:=R6.ko ky ρw;have G7:=G6.ko ky ρw;have KV:KO (λx=>x=MC\/x=MR) w v7:=KH.trans ky (by intro x hx e;(try dsimp only at e);first|exact .inl e|exact .inr e);replace rG:=G7.r;replace Rr:=θ2 B7.r X7.r;go_wp2;go_ret;refine⟨⟨_,rfl⟩,fp,λx hx=>.inl hx,aY.below ⟨MC,MR,_,_,B7,C7,R7,λp hp=>?_,λp hp=>?_,H6,H7,H8,H9,λx hx=>qB (UC x hx) KV.size⟩ ρE,(KV.step0 ρE).mono (by intro x hx e;rcases e with rfl|rfl;exact H7;exact H8)⟩
    ·have hk:QS w fp N p.2:=by
      rcases jI hp with e|e
      ·rw[e];exact NU
      ·exact H4.out p e
     exact hk.of_ko (qR _) (λ_ h=>h) KV (λg' cs' _ hb e=>by rcases e with e|e;exact aC hb H2 e;exact aC hb H3 e)
    ·rcases jI hp with e|e
     ·exact⟨_,_,_,_,_,e⟩
     ·exact H5.out p e
end Go.Proofs.YtfdlemkplejdnaaGreat
