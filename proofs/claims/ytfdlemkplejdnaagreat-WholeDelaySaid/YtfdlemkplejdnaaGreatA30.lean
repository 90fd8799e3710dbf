/- WholeDelay, part 30. Conditions: none. -/
import Derived.Test.YtfdlemkplejdnaaGreatA19
import Derived.Test.YtfdlemkplejdnaaGreatA23
import Derived.Test.YtfdlemkplejdnaaGreatA29
namespace Go.Proofs.YtfdlemkplejdnaaGreat
open Go.RowKit Go.Sort
open Value renaming int->ι,pointer->ψ,slice->ζ,tuple->χ,agg->φ,map->μ,bool->β
open IntKind renaming u64->υ,i64->ε,u16->ω
open Ending renaming returned->ϰ
open Go.Proofs.Tryz renaming prog->Ψ,underlying3->Θ,underlying147->Δ,underlying152->Γ,underlying202->Φ,underlying39->Ξ,underlying207->Ω
open Go renaming World->ϖ,Value->ϗ
set_option linter.unusedVariables false
set_option linter.unusedSimpArgs false
set_option maxHeartbeats 8000000
set_option maxRecDepth 100000
def eC (k:Int)(x:CD)(L:List CD):List CD:=if k=2 then qp x.id L else fy x L
theorem zI (A T M:Nat)(L:List CD)(x:CD)(w:ϖ)(A0:ah w A #[T] 145)(H:aF w T M L)(hL:L.length<=1000):Calls Ψ 142 #[φ (fd x),A] w λe w'=>∃n L',e=ϰ (ι ε n)/\aF w' T M L'/\(n=0->L'=qp x.id L)/\(n≠0->L'=L)/\KO (λy=>y=M) w w':=by
 have zT:=H.1.size;have zM:=H.2.1.size;have Rr:=A0.r;go_in;go_wp2_with fail;refine Calls.mono (Hz T M L x.id _ (H.below ρE) hL) ?_;rintro e v ⟨n,L',rfl,H2,h1,h2,kx⟩;refine δL ?_;intro k2 z2;clear kx;go_wp2;go_ret;exact⟨n,L',rfl,H2.below ρE,h1,h2,k2.step0 ρE⟩
theorem Ca (T M:Nat)(L:List CD)(k:Int)(hk:k=1)(x:CD)(xs:List Int)(hu:dy L x.par xs)(JK:xs.length<=1000)(w:ϖ)(H:aF w T M L)(hL:L.length<=1000)(hr:(0<=x.r0/\0<=x.r1/\0<=x.r2)/\(0<=x.l0/\0<=x.l1/\0<=x.l2)/\(0<=x.u0/\0<=x.u1/\0<=x.u2)):Calls Ψ 107 #[T,φ #[ι ε k,ι ε x.id,ι ε x.par,β x.lf,x.r0,x.r1,x.r2,x.l0,x.l1,x.l2,x.u0,x.u1,x.u2,ι ε x.pk,ι ε x.by_]] w λe w'=>∃n L',e=ϰ (ι ε n)/\aF w' T M L'/\(n=0->L'=eC k x L/\(k=1\/k=3->x.ok))/\(n≠0->L'=L)/\(um x L xs->n=0)/\KO (λy=>y=M) w w':=by
 have zT:=H.1.size;have zM:=H.2.1.size;subst hk;go_in;go_wp2_with fail;refine Calls.mono (Fv T M L x xs _ (H.below ρE) hL hr hu JK) ?_;rintro e v ⟨n,L',rfl,H2,h1,h2,hg,kx⟩;refine δL ?_;intro k2 z2;clear kx;go_wp2;go_ret;exact⟨n,L',rfl,H2.below ρE,λh=>⟨by rw[(h1 h).1];simp[eC],λ_=>(h1 h).2⟩,h2,hg,k2.step0 ρE⟩
theorem EH (T M:Nat)(L:List CD)(k:Int)(hk:k=3)(x:CD)  (w:ϖ)(H:aF w T M L)(hL:L.length<=1000)(hr:(0<=x.r0/\0<=x.r1/\0<=x.r2)/\(0<=x.l0/\0<=x.l1/\0<=x.l2)/\(0<=x.u0/\0<=x.u1/\0<=x.u2)):Calls Ψ 107 #[T,φ #[ι ε k,ι ε x.id,ι ε x.par,β x.lf,x.r0,x.r1,x.r2,x.l0,x.l1,x.l2,x.u0,x.u1,x.u2,ι ε x.pk,ι ε x.by_]] w λe w'=>∃n L',e=ϰ (ι ε n)/\aF w' T M L'/\(n=0->L'=eC k x L/\(k=1\/k=3->x.ok))/\(n≠0->L'=L)/\KO (λy=>y=M) w w':=by
 have zT:=H.1.size;have zM:=H.2.1.size;subst hk;go_in;go_wp2_with fail;refine Calls.mono (HF T M L x _ (H.below ρE) hL hr) ?_;rintro e v ⟨n,L',rfl,H2,h1,h2,kx⟩;refine δL ?_;intro k2 z2;clear kx;go_wp2;go_ret;exact⟨n,L',rfl,H2.below ρE,λh=>⟨by rw[(h1 h).1];simp[eC],λ_=>(h1 h).2⟩,h2,k2.step0 ρE⟩
theorem EG (T M:Nat)(L:List CD)(k:Int)(hk:k=2)(x:CD)  (w:ϖ)(H:aF w T M L)(hL:L.length<=1000)(hr:(0<=x.r0/\0<=x.r1/\0<=x.r2)/\(0<=x.l0/\0<=x.l1/\0<=x.l2)/\(0<=x.u0/\0<=x.u1/\0<=x.u2)):Calls Ψ 107 #[T,φ #[ι ε k,ι ε x.id,ι ε x.par,β x.lf,x.r0,x.r1,x.r2,x.l0,x.l1,x.l2,x.u0,x.u1,x.u2,ι ε x.pk,ι ε x.by_]] w λe w'=>∃n L',e=ϰ (ι ε n)/\aF w' T M L'/\(n=0->L'=eC k x L/\(k=1\/k=3->x.ok))/\(n≠0->L'=L)/\KO (λy=>y=M) w w':=by
 have zT:=H.1.size;have zM:=H.2.1.size;subst hk;go_in;go_wp2_with fail;refine Calls.mono (zI _ T M L x _ ρB (H.below ρE) hL) ?_;rintro e v ⟨n,L',rfl,H2,h1,h2,kx⟩;refine δL ?_;intro k2 z2;clear kx;go_wp2;go_ret;exact⟨n,L',rfl,H2.below ρE,λh=>⟨by rw[h1 h];simp[eC],λh=>by omega⟩,h2,k2.step0 ρE⟩
theorem ED (T M:Nat)(L:List CD)(k:Int)(hk:k≠1/\k≠3/\k≠2)(x:CD)  (w:ϖ)(H:aF w T M L)(hL:L.length<=1000)(hr:(0<=x.r0/\0<=x.r1/\0<=x.r2)/\(0<=x.l0/\0<=x.l1/\0<=x.l2)/\(0<=x.u0/\0<=x.u1/\0<=x.u2)):Calls Ψ 107 #[T,φ #[ι ε k,ι ε x.id,ι ε x.par,β x.lf,x.r0,x.r1,x.r2,x.l0,x.l1,x.l2,x.u0,x.u1,x.u2,ι ε x.pk,ι ε x.by_]] w λe w'=>∃n L',e=ϰ (ι ε n)/\aF w' T M L'/\(n=0->L'=eC k x L/\(k=1\/k=3->x.ok))/\(n≠0->L'=L)/\KO (λy=>y=M) w w':=by
 have zT:=H.1.size;have zM:=H.2.1.size;go_in;have d1:(k==1)=false:=ρ6;have d3:(k==3)=false:=ρ6;have d2:(k==2)=false:=ρ6;go_wp2;go_ret;exact⟨1,L,rfl,H.below ρE,by omega,λ_=>rfl,(KO.of_below ρE)⟩
theorem qE (x:CD):∀L:List CD,(fy x L).length<=L.length+1
 | []=>by simp[fy]
 | c::r=>by
  have:=qE x r;unfold fy;split
  ·simp
  ·simp;omega
theorem ye (id:Int)(L:List CD):(qp id L).length<=L.length:=ZH _ _
theorem qw (k:Int)(x:CD)(L:List CD):(eC k x L).length<=L.length+1:=by
 unfold eC;split
 ·have:=ye x.id L;omega
 ·exact qE x L
theorem nU {L:List CD} {rk:Int->Nat} (h:∀id c,fc L id=some c->fc L c.par=none\/rk c.par<rk id):∀n id,rk id<=n->∃xs,dy L id xs/\xs.length<=n+1
 | n,id,hr=>by
  cases hc:fc L id with
  | none=>exact⟨[],hc,by simp⟩
  | some c=>
   rcases h id c hc with h0|h0
   ·exact⟨[id],⟨c,hc,rfl,h0⟩,by simp⟩
   ·cases n with
    | zero=>omega
    | succ m=>obtain⟨xs,h1,h2⟩:=nU h m c.par ρa;exact⟨id::xs,⟨c,hc,rfl,h1⟩,by simp;omega⟩
def py (c:Int × CD):List ϗ:=[ι ε c.1,ι ε c.2.id,ι ε c.2.par,β c.2.lf,c.2.r0,c.2.r1,c.2.r2,c.2.l0,c.2.l1,c.2.l2,c.2.u0,c.2.u1,c.2.u2,ι ε c.2.pk,ι ε c.2.by_]
def wZ:List (Int × CD)->List CD->Prop
 | [],_=>True
 | c::r,L=>(c.1=1->∃xs,dy L c.2.par xs/\xs.length<=900)/\wZ r (eC c.1 c.2 L)
theorem pR {c:CD} (h:de (kd c.r0 c.r1 c.r2)=true)(h0:0<=c.r0/\0<=c.r1/\0<=c.r2):cV c.r0 c.r1 c.r2:=by
 have h1:kd c.r0 c.r1 c.r2≠0:=by intro e;rw[e] at h;exact az h ρf
 have:=ia h1;exact⟨h1,by omega,by omega,by omega⟩
theorem vP {L:List CD} {p:CD->Bool} (h:(L.map CD.id).Nodup) {y:Int} (hy:y ∈ aM p L):∃c,fc L y=some c/\p c=true:=by
 unfold aM at hy;rw[List.mem_mergeSort,List.mem_map] at hy;obtain⟨c,hc,rfl⟩:=hy;rw[ZE] at hc;refine⟨c,?_,hc.2⟩;have:∀(L:List CD),(L.map CD.id).Nodup->c ∈ L->fc L c.id=some c:=by
  intro L
  induction L with
  | nil=>intro _ h;cases h
  | cons a r ih=>
   intro hn hm;rw[fV,ZD] at hn;unfold fc;rcases ZC.1 hm with e|e
   ·rw[e,ZP rfl]
   ·rw[ZI (λe2=>hn.1 (by rw[<- e2];exact List.mem_map_of_mem e))];exact ih hn.2 e
 exact this L h hc.1
def sq:Prop:=∀(t:Int)(v:ϗ)(l:List CD)(w:ϖ)(base:Nat),af 41 3 fu w base v l->(1<=t/\t<=65536)->l.length<=49->(∀c ∈ l,cV c.r0 c.r1 c.r2)->Calls Ψ 108 #[ι ε t,v] w λe w'=>∃n,e=ϰ (ι ε n)/\Below w w w'/\(l=[]->n=0)
def pE:List (Int × CD)->List CD->Prop
 | [],L=>aM (λc:CD=>de (kd c.r0 c.r1 c.r2)) L=[]
 | c::r,L=>c.1=1/\(∀ys,dy L c.2.par ys->um c.2 L ys)/\pE r (eC c.1 c.2 L)
theorem xQ {P:Prop} (hP:¬P) {f:FuncId} {args:Array ϗ} {w:ϖ} {A:Int->List CD->ϖ->Prop} {B C:Int->List CD->Prop} {D:ϖ->Prop} (h:Calls Ψ f args w λe w'=>∃n L',e=ϰ (ι ε n)/\A n L' w'/\B n L'/\C n L'/\D w'):Calls Ψ f args w λe w'=>∃n L',e=ϰ (ι ε n)/\A n L' w'/\B n L'/\C n L'/\(P->n=0)/\D w':=by
 refine h.mono ?_;rintro e w' ⟨n,L',rfl,h1,h2,h3,h4⟩;exact⟨n,L',rfl,h1,h2,h3,λq=>az q hP,h4⟩
theorem rL (hF:sq)(T M:Nat)(L:List CD)(t:Int)(v:ϗ)(xs:List (Int × CD))(B:Nat)(w:ϖ)(H:aF w T M L)(ht:1<=t/\t<=65536)(hL:L.length<=10)(G:aS 15 py w B v xs)(zB:B<=w)(Kh:wZ xs L)(KR:∀c ∈ xs,(0<=c.2.r0/\0<=c.2.r1/\0<=c.2.r2)/\(0<=c.2.l0/\0<=c.2.l1/\0<=c.2.l2)/\(0<=c.2.u0/\0<=c.2.u1/\0<=c.2.u2))(JK:xs.length<=1000000):Calls Ψ 76 #[T,ι ε t,v] w λe w'=>∃u i n,e=ϰ (χ #[u,ι ε i,ι ε n])/\(n=0->∃T' M',u=ψ (some ⟨T',0,none⟩)/\w.heap.size<=T'/\w.heap.size<=M'/\aF w' T' M' (xs.foldl (λL c=>eC c.1 c.2 L) L))/\(pE xs L->xs.length<=32->n=0)/\Below w w w':=by
 obtain⟨oa,oc,rfl,-⟩:=G.slice;obtain⟨n,hn⟩:=Nq xs.length;rw[hn] at G JK ⊢;have zT:=H.1.size;have zM:=H.2.1.size;have d1:=df (t<1);have d2:=df (65536<t);go_in;go_upto_region 5 with (fail);by_cases h32:32<n
 ·have d3:=dt ((32:Int)<(n:Int));go_wp2;refine ZO (v:=χ #[Kp,Kz,ι ε 2]) τP rfl ?_;exact⟨ψ none,0,2,rfl,λh=>az h ρa,λ_ h=>az h ρa,ρE⟩
 have d3:=df ((32:Int)<(n:Int));go_wp2_with fail;refine(Fw T M L _ (H.below ρE)).mono ?_;rintro e vb ⟨T2,M2,rfl,H1,zT2,zM2,k1⟩;have b1:Below w w vb:=Below.trans ρE (k1.mono ρp);have G1:=G.belowK b1 zB;have zM2':w<=M2:=by (try simp at zM2);omega
 have zT2':w<=T2:=by (try simp at zT2);omega
 have z1:=b1.size;clear k1 zT2 zM2;replace hn:=ag hn;go_wp2_with fail;go_loopw [32] (λk wr=>∃(a b:List (Int × CD)) (Lr:List CD),k=ι ε (a.length:Nat)/\xs=a++b/\Lr=a.foldl (λL c=>eC c.1 c.2 L) L/\Lr.length<=L.length+a.length/\wZ b Lr/\(pE xs L->pE b Lr)/\aF wr T2 M2 Lr/\aS 15 py wr B (ζ oa n oc) xs/\KO (λy=>y=M2) vb wr) (λk _=>n - (intOf k).toNat);case atStart=>exact⟨[],xs,L,rfl,rfl,rfl,by simp,Kh,λh=>h,H1,G1,KO.refl _ _⟩
 case round=>
  obtain⟨a,b,Lr,rfl,Wh,hLr,JS,hcb,hgb,T0,G0,JG⟩:=hrel;replace hgb:=ag hgb;have zw:=JG.size;clear G1 H1;have JO:a.length+b.length=n:=by rw[<- hn.out,Wh,ZL]
  obtain⟨q,hq⟩:=Nq a.length;rw[hq] at JO JS ⊢;have kb:KO (λ_=>False) w wr:=(KO.of_below (F:=λ_=>False) b1).trans JG (by intro y hy h;(try dsimp only at h);omega);have zTr:=T0.1.size;have zMr:=T0.2.1.size;have hLl:Lr.length<=1000:=ρa;have hL49:Lr.length<=49:=ρa;have Nx:=gw T0;cases b with
  | nil=>
   refine η4 ?_;intro JM hd;have ha:a=xs:=by rw[Wh,ZA]
   change Hid _ at JO hq Wh ha hLr hcb;go_wp2_with fail;refine(Dw T2 M2 Lr _ (T0.below ρE) hLl).mono ?_;rintro e v4 ⟨u,rfl,R4,k4⟩;have b4:Below wr wr v4:=Below.trans ρE (k4.mono ρp);have T4:=T0.below b4;have z4:=b4.size;clear k4;go_wp2_with fail;refine Calls.mono (hF t _ _ _ _ (af.below R4 ρE) ⟨ht.1,ht.2⟩ ?_ ?_) ?_
   ·rw[px];unfold aM;rw[List.length_mergeSort,px];exact ZK (ZH _ _) hL49
   ·intro c hc;obtain⟨i,hi,rfl⟩:=List.mem_map.1 hc;obtain⟨d,ME,hp⟩:=vP Nx hi;unfold dL;rw[ME];exact pR hp (T0.2.2 d (aL ME).1).2.2.1
   rintro e v5 ⟨m,rfl,k5,NI⟩;have b5:Below v4 v4 v5:=Below.trans ρE (k5.mono ρp);have T5:=T4.below b5;have z5:=b5.size;have JP:KO (λ_=>False) w v5:=(kb.step0 b4).step0 b5;clear k5 kb JG;by_cases h0:m=0
   ·subst h0;go_wp2_with fail;refine ZO (v:=χ #[T2,Kz,Kz]) τP rfl ?_;refine⟨_,0,0,rfl,λ_=>⟨T2,M2,rfl,zT2',zM2',?_⟩,λ_ _=>rfl,(JP.step0 ρE).toBelow⟩;rw[<- ha.out,<- hLr.out];exact T5.below ρE
   ·have e0:(m==0)=false:=by rw[ZN];exact h0
    have e1:(m !=0)=true:=by simp[h0]
    go_wp2_with fail;refine ZO (v:=χ #[Kp,Kz,ι ε m]) τP rfl ?_;exact⟨_,0,m,rfl,λh=>az h h0,λg _=>NI (by rw[show aM (λc:CD=>de (kd c.r0 c.r1 c.r2)) Lr=[] from hgb.out g];rfl),(JP.step0 ρE).toBelow⟩
  | cons kx r=>
   obtain⟨k,x⟩:=kx;refine η5 ?_;intro JM hd;have MS:xs[q]?=some (k,x):=by rw[Wh,<- hq];simp
   obtain⟨hs,hcr⟩:=hcb;have Vk:=KR (k,x) (by rw[Wh];simp);obtain⟨g,off,rfl,hg,RA⟩:=G0.at MS;have hLr1:eC k x Lr=(a++[(k,x)]).foldl (λL c=>eC c.1 c.2 L) L:=by rw[List.foldl_append,<- hLr];rfl
   have NH:=qw k x Lr;change Hid _ at JO hq Wh hLr hLr1 hcr;go_upto_region 10 with (fail);go_wp2_with (refine Go.wpList_load_mid rfl 86 _ rfl g (off+q*15) rfl (py (k,x)) _ RA Tryz.underlying86 rfl ρh ?_;try simp only[py,List.toArray]);refine Zc (θ3 JG T0 G0) ?_;rintro v1 ⟨I',T1,G1⟩;have Xm:Calls Ψ 107 #[T2,φ #[ι ε k,ι ε x.id,ι ε x.par,β x.lf,x.r0,x.r1,x.r2,x.l0,x.l1,x.l2,x.u0,x.u1,x.u2,ι ε x.pk,ι ε x.by_]] v1 λe w'=>∃n L',e=ϰ (ι ε n)/\aF w' T2 M2 L'/\(n=0->L'=eC k x Lr/\(k=1\/k=3->x.ok))/\(n≠0->L'=Lr)/\(pE ((k,x)::r) Lr->n=0)/\KO (λy=>y=M2) v1 w':=by
    by_cases e1:k=1
    ·obtain⟨ys,hu,hul⟩:=hs e1;refine(Ca T2 M2 Lr k e1 x ys hu ρa _ T1 hLl Vk).mono ?_;rintro e w' ⟨n,L',rfl,q1,q2,q3,q4,q5⟩;exact⟨n,L',rfl,q1,q2,q3,λg=>q4 (g.2.1 ys hu),q5⟩
    ·by_cases e3:k=3
     ·exact xQ (λg=>e1 g.1) (EH T2 M2 Lr k e3 x _ T1 hLl Vk)
     ·by_cases e2:k=2
      ·exact xQ (λg=>e1 g.1) (EG T2 M2 Lr k e2 x _ T1 hLl Vk)
      ·exact xQ (λg=>e1 g.1) (ED T2 M2 Lr k ⟨e1,e3,e2⟩ x _ T1 hLl Vk)
   refine Calls.mono Xm ?_;rintro e v2 ⟨m,L',rfl,T2',h1,h2,hgo,kx⟩;clear Xm;have G2:=G1.ko kx (λy hy h=>by (try dsimp only at h);omega);have JE:=I'.trans kx (λy hy h=>h);have z2:=JE.size;clear kx;by_cases h0:m=0
   ·subst h0;obtain⟨rfl,-⟩:=h1 rfl;go_wp2;go_roundw;case rel=>exact⟨a++[(k,x)],r,_,by rw[ZL,hq.out];go_num,by rw[Wh.out];simp,hLr1.out,by rw[ZL,hq.out];simp;omega,hcr.out,λg=>(hgb.out g).2.2,T2'.below ρE,G2.below ρE,JE.step0 ρE⟩
    case measure=>exact ξc
   ·have e0:(m==0)=false:=by rw[ZN];exact h0
    have e1:(m !=0)=true:=by simp[h0]
    have kz:KO (λ_=>False) w v2:=(KO.of_below (F:=λ_=>False) b1).trans JE (by intro y hy h;(try dsimp only at h);omega);go_wp2_with fail;refine ZO (v:=χ #[Kp,ι ε (q:Nat),ι ε m]) τP rfl ?_;exact⟨_,_,m,rfl,λh=>az h h0,λg _=>hgo (hgb.out g),(kz.step0 ρE).toBelow⟩
theorem BZ (hF:sq)(T M:Nat)(L:List CD)(t:Int)(v:ϗ)(xs:List (Int × CD))(B:Nat)(w:ϖ)(H:aF w T M L)(ht:1<=t/\t<=65536)(hL:L.length<=10)(G:aS 15 py w B v xs)(zB:B<=w)(Kh:wZ xs L)(KR:∀c ∈ xs,(0<=c.2.r0/\0<=c.2.r1/\0<=c.2.r2)/\(0<=c.2.l0/\0<=c.2.l1/\0<=c.2.l2)/\(0<=c.2.u0/\0<=c.2.u1/\0<=c.2.u2))(JK:xs.length<=1000000):Calls Ψ 76 #[T,ι ε t,v] w λe w'=>∃u i n,e=ϰ (χ #[u,ι ε i,ι ε n])/\(n=0->∃T' M',u=ψ (some ⟨T',0,none⟩)/\w.heap.size<=T'/\w.heap.size<=M'/\aF w' T' M' (xs.foldl (λL c=>eC c.1 c.2 L) L))/\Below w w w':=by
 refine(rL hF T M L t v xs B w H ht hL G zB Kh KR JK).mono ?_;rintro e w' ⟨u,i,n,rfl,h1,_,h2⟩;exact⟨u,i,n,rfl,h1,h2⟩
def jR (h m:K4):K4:=⟨bits .and .u16 h.a m.a,bits .and .u16 h.b m.b,bits .and .u16 h.c m.c,bits .and .u16 h.d m.d⟩
theorem uI (h m:K4)(w:ϖ):CB 74 #[kv h,kv m] w (kv (jR h m)):=by obtain⟨a,b,c,d⟩:=h;obtain⟨x,y,z,u⟩:=m;unfold CB;go_in;go_upto_region 2 with (fail);refine Jw (Ks (λ_=>False) w) (λv=>ah v w #[ι ω a,ι ω b,ι ω c,ι ω d] 48/\ah v ((w+1)) #[ι ω x,ι ω y,ι ω z,ι ω u] 48/\ah v ((w+2)) #[eE,eE,eE,eE] 48) ⟨ρB,ρB,ρB⟩ ?_;rintro v1 ⟨H1,M1,R1⟩ I';replace rR:=R1.r;have Rr:=θ2 H1.r M1.r;refine wp_loop_rounds 5 ?_;rw[cU];go_upto_region 4 with (fail);refine bK (θ4 I' H1 M1 R1) ?_;clear Rr;rintro v2 ⟨JE,H2,M2,R2⟩ Rr;replace rR:=R2.r;have q:=θ3 (ae H2) (ae M2) (ae R2);refine Ws 8 (gC ?_);refine bB (θ4 H2 M2 R2 JE) ?_;clear Rr;rintro v3 ⟨H3,M3,R3,JI⟩ Rr;replace rR:=R3.r;clear q H2 M2 R2;go_wp2_with fail;refine GP v3 (λx=>x=w.heap.size) (λv=>ah v w #[ι ω (bits .and .u16 a x),ι ω b,ι ω c,ι ω d] 48/\ah v ((w+1)) #[ι ω x,ι ω y,ι ω z,ι ω u] 48/\ah v ((w+2)) #[eE,eE,eE,eE] 48) ⟨ρB,ρB,ρB⟩ (λ_ kx=>(JI.trans kx σ3)) ?_;rintro v4 ⟨H4,M4,R4⟩ JJ;replace rR:=R4.r;replace Rr:=θ2 H4.r M4.r;rw[cU];go_upto_region 4 with (fail);refine bK (θ4 JJ H4 M4 R4) ?_;clear Rr;rintro v5 ⟨JP,H5,M5,R5⟩ Rr;replace rR:=R5.r;have q:=θ3 (ae H5) (ae M5) (ae R5);refine Ws 8 (gC ?_);refine bB (θ4 H5 M5 R5 JP) ?_;clear Rr;rintro v6 ⟨H6,M6,R6,JT⟩ Rr;replace rR:=R6.r;clear q H5 M5 R5;go_wp2_with fail;refine GP v6 (λx=>x=w.heap.size) (λv=>ah v w #[ι ω (bits .and .u16 a x),ι ω (bits .and .u16 b y),ι ω c,ι ω d] 48/\ah v ((w+1)) #[ι ω x,ι ω y,ι ω z,ι ω u] 48/\ah v ((w+2)) #[eE,eE,eE,eE] 48) ⟨ρB,ρB,ρB⟩ (λ_ kx=>(JT.trans kx σ3)) ?_;rintro v7 ⟨H7,M7,R7⟩ J7;replace rR:=R7.r;replace Rr:=θ2 H7.r M7.r;rw[cU];go_upto_region 4 with (fail);refine bK (θ4 J7 H7 M7 R7) ?_;clear Rr;rintro v8 ⟨Ka,H8,M8,R8⟩ Rr;replace rR:=R8.r;have q:=θ3 (ae H8) (ae M8) (ae R8);refine Ws 8 (gC ?_);refine bB (θ4 H8 M8 R8 Ka) ?_;clear Rr;rintro v9 ⟨H9,M9,R9,Km⟩ Rr;replace rR:=R9.r;clear q H8 M8 R8;go_wp2_with fail;refine GP v9 (λx=>x=w.heap.size) (λv=>ah v w #[ι ω (bits .and .u16 a x),ι ω (bits .and .u16 b y),ι ω (bits .and .u16 c z),ι ω d] 48/\ah v ((w+1)) #[ι ω x,ι ω y,ι ω z,ι ω u] 48/\ah v ((w+2)) #[eE,eE,eE,eE] 48) ⟨ρB,ρB,ρB⟩ (λ_ kx=>(Km.trans kx σ3)) ?_;rintro N0 ⟨TO,Zd,TR⟩ Kg;replace rR:=TR.r;replace Rr:=θ2 TO.r Zd.r;rw[cU];go_upto_region 4 with (fail);refine bK (θ4 Kg TO Zd TR) ?_;clear Rr;rintro LD ⟨KE,Uz,Ze,N4⟩ Rr;replace rR:=N4.r;have q:=θ3 (ae Uz) (ae Ze) (ae N4);refine Ws 8 (gC ?_);refine bB (θ4 Uz Ze N4 KE) ?_;clear Rr;rintro Oe ⟨H12,M12,Rp,Kl⟩ Rr;replace rR:=Rp.r;clear q Uz Ze N4;go_wp2_with fail;refine GP Oe (λx=>x=w.heap.size) (λv=>ah v w #[ι ω (bits .and .u16 a x),ι ω (bits .and .u16 b y),ι ω (bits .and .u16 c z),ι ω (bits .and .u16 d u)] 48/\ah v ((w+1)) #[ι ω x,ι ω y,ι ω z,ι ω u] 48/\ah v ((w+2)) #[eE,eE,eE,eE] 48) ⟨ρB,ρB,ρB⟩ (λ_ kx=>(Kl.trans kx σ3)) ?_;rintro PP ⟨H13,M13,R13⟩ Li;replace rR:=R13.r;replace Rr:=θ2 H13.r M13.r;rw[cU];go_wp2_with fail;refine eD PP (λx=>x=(w.heap.size+2)) (λv=>ah v w #[ι ω (bits .and .u16 a x),ι ω (bits .and .u16 b y),ι ω (bits .and .u16 c z),ι ω (bits .and .u16 d u)] 48/\ah v ((w+1)) #[ι ω x,ι ω y,ι ω z,ι ω u] 48/\ah v ((w+2)) #[ι ω (bits .and .u16 a x),ι ω (bits .and .u16 b y),ι ω (bits .and .u16 c z),ι ω (bits .and .u16 d u)] 48) ⟨ρB,ρB,ρB⟩ (λ_ kx=>(Li.trans kx σ3)) ?_;rintro YP ⟨H14,M14,R14⟩ OY;replace rR:=R14.r;replace Rr:=θ2 H14.r M14.r;refine ZO (v:=φ #[ι ω (bits .and .u16 a x),ι ω (bits .and .u16 b y),ι ω (bits .and .u16 c z),ι ω (bits .and .u16 d u)]) (by simp[results,Tryz.results74,go_sem,rR.1]) rfl ⟨rfl,OY.toBelow⟩
structure RL where
 (m w:K4)
 (c:Int)
def pB (r:RL):List ϗ:=[ι ω r.m.a,ι ω r.m.b,ι ω r.m.c,ι ω r.m.d,ι ω r.w.a,ι ω r.w.b,ι ω r.w.c,ι ω r.w.d,ι ε r.c]
theorem BN:(Ψ.info? 88).map (λi=>(i.zero,i.size,i.bytes))=some (some (φ #[eE,eE,eE,eE,eE,eE,eE,eE,Kz]),9,24):=by kernel_rfl
def jh (r:RL)(h:K4):Bool:=decide (jR h r.m=r.w)
theorem HV (k j:K4)(v:ϖ):(binOp .eql 48 (kv k) (kv j)).run Ψ v=.ok (β (decide (k=j))) v:=by rw[run_eql_struct,xE 9998 k j];simp[Result.andThen]
theorem CA (k j:K4)(v:ϖ):(binOp .neq 48 (kv k) (kv j)).run Ψ v=.ok (β (decide (k≠j))) v:=by rw[run_neq_struct,xE 9998 k j];simp[Result.andThen]
def je:K4:=⟨65535,65535,65535,65535⟩
theorem Bh (w:ϖ):Calls Ψ 75 #[] w λe w'=>e=ϰ (kv je)/\Below w w w':=by go_in;go_wp2_with fail;refine Jb (Ks (λ_=>False) w) (λv=>ah v w #[ι ω 65535,ι ω 65535,ι ω 65535,ι ω 65535] 48) ρB ?_;rintro v1 R1 I';replace rR:=R1.r;exact ZO (v:=φ #[ι ω 65535,ι ω 65535,ι ω 65535,ι ω 65535]) (by simp[results,Tryz.results75,go_sem,rR.1]) rfl ⟨rfl,I'.toBelow⟩
theorem vY (r:RL)(h:K4)(w:ϖ):Calls Ψ 125 #[φ #[ι ω r.m.a,ι ω r.m.b,ι ω r.m.c,ι ω r.m.d,ι ω r.w.a,ι ω r.w.b,ι ω r.w.c,ι ω r.w.d,ι ε r.c],kv h] w λe w'=>e=ϰ (β (jh r h))/\Below w w w':=by
 obtain⟨⟨a,b,c,d⟩,⟨x,y,z,u⟩,cl⟩:=r;have he:=HV (jR h ⟨a,b,c,d⟩) ⟨x,y,z,u⟩;have hu:=λv=>uI h ⟨a,b,c,d⟩ v;obtain⟨q,hq⟩:=Nq (jR h ⟨a,b,c,d⟩);rw[hq] at he hu;show Calls _ _ _ _ λe w'=>e=ϰ (β (decide (jR h ⟨a,b,c,d⟩=⟨x,y,z,u⟩)))/\_;rw[hq];clear hq;obtain⟨s,hs⟩:=Nq (decide (q=⟨x,y,z,u⟩));rw[hs] at he ⊢;clear hs;obtain⟨h0,h1,h2,h3⟩:=h;obtain⟨q0,q1,q2,q3⟩:=q;simp only[kv] at he hu ⊢;go_in;go_upto_region 1 with (fail);refine Jw (Ks (λ_=>False) w) (λv=>ah v w #[ι ω a,ι ω b,ι ω c,ι ω d,ι ω x,ι ω y,ι ω z,ι ω u,ι ε cl] 88/\ah v ((w+1)) #[ι ω h0,ι ω h1,ι ω h2,ι ω h3] 48) ⟨ρB,ρB⟩ ?_;rintro v1 ⟨R1,H1⟩ I';have Rr:=θ2 R1.r H1.r;refine bK (θ3 I' R1 H1) ?_;clear Rr;rintro v2 ⟨JE,R2,H2⟩ Rr;have qR:=ae R2;have qH:=ae H2;refine Wq ?_
 repeat (go_big_quiet_step ((first
   | (go_at_call 74;(with_reducible exact bZ (hu _))))))
 refine bB (θ3 R2 H2 JE) ?_;clear Rr;rintro v3 ⟨R3,H3,JI⟩ Rr;clear qR qH R2 H2;go_wp2;go_ret;exact⟨rfl,(JI.step0 ρE).toBelow⟩
theorem bw.of_eq {w v:ϖ} {M:Nat} {L:List FW} (h:bw w M L)(e:v.heap[M]?=w.heap[M]?):bw v M L:=by obtain⟨es,ck,h1,h2⟩:=h;exact⟨es,ck,by rw[e];exact h1,h2⟩
theorem bw.size {w:ϖ} {M:Nat} {L:List FW} (h:bw w M L):M<w:=by obtain⟨es,ck,h1,_⟩:=h;exact(Array.getElem?_eq_some_iff.1 h1).1
theorem bw.below {w v:ϖ} {M:Nat} {L:List FW} (h:bw w M L)(k:Below w w v):bw v M L:=h.of_eq (k.block M h.size)
instance {w M L}:Mv (bw w M L) w (λv'=>bw v' M L):=⟨λk h=>bw.below h k⟩
theorem bw.ko {w v:ϖ} {F:Nat->Prop} {M:Nat} {L:List FW} (h:bw w M L)(k:KO F w v)(hF:¬F M):bw v M L:=h.of_eq (k.block M h.size hF)
theorem na {k:K4}:∀{L:List FW} {i:Nat} {p:Nat × FW},bL L k i=some p->p.2 ∈ L
 | [],i,p,h=>by cases h
 | f::r,i,p,h=>by
  unfold bL at h;split at h
  ·cases h;simp
  ·exact sA _ (na h)
theorem BO (x:RL):(pB x).length=9:=rfl
def bE (w:ϖ)(B:Nat)(rs:List RL)(ex:List FW)(ms:List Int)(fp:Nat->Prop):Prop:=∃(base:Nat)(M:Nat)(rv mv:ϗ),ah w B #[rv,.map (some M),mv] 164/\af 88 9 pB w base rv rs/\bw w M ex/\HI w base mv ms/\(rs.length<=1000/\ms.length<=1000)/\(∀f ∈ ex,0<=f.p/\f.p.toNat<rs.length)/\(∀i ∈ ms,0<=i/\i.toNat<rs.length)/\(∀x,x=B\/x=M\/some x=rv.ownBlock\/some x=mv.ownBlock->fp x)/\(∀x,fp x->x<w.heap.size)
theorem bE.ko {w v:ϖ} {F fp:Nat->Prop} {B:Nat} {rs:List RL} {ex:List FW} {ms:List Int} (h:bE w B rs ex ms fp)(k:KO F w v)(hF:∀x,fp x->¬F x):bE v B rs ex ms fp:=by obtain⟨base,M,rv,mv,h1,h2,h3,h4,h5,h6,h7,h8,h9⟩:=h;exact⟨base,M,rv,mv,h1.ko k (hF _ (h8 _ (.inl rfl))),h2.ko k (λx _ hx=>hF _ (h8 _ (.inr (.inr (.inl hx))))),h3.ko k (hF _ (h8 _ (.inr (.inl rfl)))),af.ko h4 k (λx _ hx=>hF _ (h8 _ (.inr (.inr (.inr hx))))),h5,h6,h7,h8,λx hx=>ZB (h9 x hx) k.size⟩
theorem bE.below {w v:ϖ} {fp:Nat->Prop} {B:Nat} {rs:List RL} {ex:List FW} {ms:List Int} (h:bE w B rs ex ms fp)(k:Below w w v):bE v B rs ex ms fp:=h.ko (KO.of_below (F:=λ_=>False) k) (λ_ _ f=>f)
instance {w B rs ex ms fp}:Mv (bE w B rs ex ms fp) w (λv'=>bE v' B rs ex ms fp):=⟨λk h=>bE.below h k⟩
def Cl (f:Option (Nat × FW)):Int:=match f with|some p=>p.2.p|none=>0
theorem nE {w:ϖ} {M:Nat} {L:List FW} (h:bw w M L)(k:K4):(Instr.lookup 162 (.map (some M)) (kv k) true).run Ψ w=.ok (χ #[ι ε (Cl (bL L k 0)),β (bL L k 0).isSome]) w:=by rw[rg h k];cases bL L k 0<;>rfl
def sW (rs:List RL)(A:Option Int)(h:K4):List Int->Option Int
 | []=>A.bind λi=>(rs[i.toNat]?).map (·.c)
 | i::r=>if (match A with | some j=>decide (j<i) | none=>false)=true then A.bind λi=>(rs[i.toNat]?).map (·.c) else match rs[i.toNat]? with
  | some x=>if jh x h then some x.c else sW rs A h r
  | none=>none
theorem Du {rs:List RL} {A:Option Int} {h:K4} {i:Nat} {r:List Int} {x:RL} {th:Bool} {at_:Int} (hA:A=if th then some at_ else none)(hx:rs[i]?=some x):sW rs A h ((i:Int)::r)=if (th && decide (at_<i))=true then A.bind (λi=>(rs[i.toNat]?).map (·.c)) else if jh x h then some x.c else sW rs A h r:=by
 subst hA;cases th with
 | false=>simp[sW,hx]
 | true=>simp[sW,hx]
theorem DL (B0:Nat)(rs:List RL)(ex:List FW)(ms:List Int)(fp:Nat->Prop)(h:K4)(w:ϖ)(H:bE w B0 rs ex ms fp):
  CB 85 #[B0,kv h] w (χ #[ι ε ((sW rs ((bL ex h 0).map λp=>p.2.p) h ms).getD 0),ι ε (if (sW rs ((bL ex h 0).map λp=>p.2.p) h ms).isSome then 0 else 31)]):=by
 obtain⟨h0,h1,h2,h3⟩:=h;obtain⟨base,MM,rv,mv,T,HR,E,S,JS,RF,Vf,-,-⟩:=H;have R:=HR.rd BO;obtain⟨ra,rcap,rfl,-⟩:=R.slice;obtain⟨ma,Tx,rfl⟩:=af.slice S;obtain⟨rn,Tp⟩:=Nq rs.length;obtain⟨mn,Pf⟩:=Nq ms.length;rw[Tp] at T R JS RF Vf;rw[Pf] at T S JS;clear HR;obtain⟨f0,hf0⟩:=Nq (bL ex ⟨h0,h1,h2,h3⟩ 0);obtain⟨at_,Mq⟩:=Nq (Cl f0);obtain⟨th,SG⟩:=Nq f0.isSome;have lk0:∀{v:ϖ},bw v MM ex->(Instr.lookup 162 (.map (some MM)) (φ #[ι ω h0,ι ω h1,ι ω h2,ι ω h3]) true).run Ψ v=.ok (χ #[ι ε at_,β th]) v:=λhv=>by rw[<- Mq,<- SG,<- hf0];exact nE hv ⟨h0,h1,h2,h3⟩
 obtain⟨A,hA⟩:=Nq (f0.map (λp=>p.2.p));have UU:A=if th then some at_ else none:=by rw[<- hA,<- SG,<- Mq];cases f0<;>rfl
 have Sn:th=true->0<=at_/\at_.toNat<rn:=λh=>by rw[<- SG] at h;rw[<- Mq];cases hq:f0 with|none=>rw[hq] at h;cases h|some p=>exact RF p.2 (na (hf0.trans hq))
 rw[hf0,hA];obtain⟨Wl,Nh⟩:=Nq (sW rs A ⟨h0,h1,h2,h3⟩ ms);rw[Nh];obtain⟨rc,hrc⟩:=Nq (Wl.getD 0);obtain⟨rn2,Xp⟩:=Nq (if Wl.isSome=true then (0:Int) else 31);rw[hrc,Xp];have Pg:Wl=none->rc=0/\rn2=31:=λe=>by rw[<- hrc,<- Xp,e];exact⟨rfl,rfl⟩
 have hso:∀c,Wl=some c->rc=c/\rn2=0:=λc e=>by rw[<- hrc,<- Xp,e];exact⟨rfl,rfl⟩
 clear hrc Xp;clear hA Mq SG hf0 RF f0;have zT:=T.size;have cT:=T.cell;have fT:=T.frozen;have zT:=T.size;have NL:=(lk0 E);unfold CB;go_in;go_upto_region 3 with (fail);refine Jw (θ5 (Ks (λ_=>False) w) T R E S) (λv=>ah v w #[ι ω h0,ι ω h1,ι ω h2,ι ω h3] 48) ρB ?_;rintro v1 H1 ⟨I',T1,R1,E1,S1⟩;replace cT:=T1.cell;replace fT:=T1.frozen;replace zT:=T1.size;have Rr:=H1.r;replace NL:=(lk0 E1);refine Zw (θ6 I' T1 R1 E1 S1 H1) ?_;rintro v2 ⟨JE,T2,R2,E2,S2,H2⟩;replace cT:=T2.cell;replace fT:=T2.frozen;replace zT:=T2.size;replace Rr:=H2.r;replace NL:=(lk0 E2);have qT:=ae T2;have QJ:=λd os=>(lk0 (E2.below (ZW _ d os)));have qH:=ae H2;refine Wq ?_;refine nZ ?_;refine Zq (θ6 T2 R2 E2 S2 H2 JE) ?_;rintro v3 ⟨T3,R3,E3,S3,H3,JI⟩;replace cT:=T3.cell;replace fT:=T3.frozen;replace zT:=T3.size;replace Rr:=H3.r;replace NL:=(lk0 E3);clear qT QJ qH T2 R2 E2 S2 H2;have z3:=JI.size;change Hid _ at Pf Tp;go_wp2_with fail;go_loopw [26] (λk wr=>∃(a b:List Int),k=ι ε (a.length:Nat)/\ms=a++b/\Wl=sW rs A ⟨h0,h1,h2,h3⟩ b/\ah wr B0 #[ζ ra rn rcap,.map (some MM),ζ ma mn Tx] 164/\aS 9 pB wr w (ζ ra rn rcap) rs/\HI wr base (ζ ma mn Tx) ms/\ah wr w #[ι ω h0,ι ω h1,ι ω h2,ι ω h3] 48/\KO (λ_=>False) w wr) (λk _=>mn - (intOf k).toNat);case atStart=>exact⟨[],ms,rfl,rfl,Nh.symm,T3,R3,S3,H3,JI⟩
 case round=>
  obtain⟨a,b,rfl,JK,Xd,T0,R0,S0,H0,JG⟩:=hrel;have zw:=JG.size;clear T3 R3 E3 S3 H3 JI cT fT zT NL;have JO:a.length+b.length=mn:=by rw[<- Pf.out,JK,ZL]
  obtain⟨q,hq⟩:=Nq a.length;rw[hq] at JO ⊢;have cT:=T0.cell;have fT:=T0.frozen;have zT:=T0.size;have Ss:=H0.r;cases b with
  | nil=>
   have JM:¬(q:Int)<(mn:Int):=ρn;have hd:=ZF JM;change Hid _ at JO hq JK Xd;rcases th with _|_
   ·have hm:Wl=none:=by rw[Xd.out,UU];rfl
    obtain⟨rfl,rfl⟩:=Pg hm;go_wp2_with fail;refine ZO (v:=χ #[Kz,ι ε 31]) τO rfl ⟨rfl,(JG.step0 ρE).toBelow⟩
   ·obtain⟨g1,g2⟩:=Sn rfl;obtain⟨j,rfl⟩:∃j:Nat,at_=j:=⟨at_.toNat,by omega⟩;simp only[Int.toNat_natCast] at g2;obtain⟨x,hx⟩:∃x,rs[j]?=some x:=⟨_,List.getElem?_eq_getElem (by rw[Tp.out];exact g2)⟩;have hm:Wl=some x.c:=by rw[Xd.out,UU];simp[sW,hx]
    obtain⟨rfl,rfl⟩:=hso _ hm;obtain⟨g,off,rfl⟩:=R0.some (λe=>by rw[e] at hx;simp at hx);have cx:=R0.cell hx 8 (u:=ι ε x.c) rfl;have gj:(j:Int)<rn:=ρa;have jn:(j:Int)<=1000:=ρa;go_wp2_with fail;refine ZO (v:=χ #[ι ε x.c,Kz]) τO rfl ⟨rfl,(JG.step0 ρE).toBelow⟩
  | cons i r=>
   have JM:(q:Int)<(mn:Int):=ρn;have hd:=ZT JM;have MS:ms[q]?=some i:=ρC;have JX:ms≠[]:=ρP;obtain⟨i0,i1⟩:=Vf i ρP;obtain⟨i,rfl⟩:∃j:Nat,i=j:=⟨i.toNat,by omega⟩;simp only[Int.toNat_natCast] at i1;obtain⟨x,hx⟩:∃x,rs[i]?=some x:=⟨_,List.getElem?_eq_getElem (by rw[Tp.out];exact i1)⟩;obtain⟨Us,NS,g0,e0,Kv,e1,_⟩:=af.at S0 (λ_=>rfl);have e1:=e1 JX;have e2:=(ZV e0).1;have e3:=(ZV e0).2.2;clear e0;subst e2;subst e3;subst e1;obtain⟨cx,gx,bx⟩:=HI.cell S0 q i MS;have My:q<mn:=ρa;have in_:(i:Int)<rn:=ρa;have in1:(i:Int)<=1000:=ρa;obtain⟨g,off,rfl⟩:=R0.some (λe=>by rw[e] at hx;simp at hx);have PB:Wl=if (th && decide (at_<i))=true then A.bind (λi=>(rs[i.toNat]?).map (·.c)) else if jh x ⟨h0,h1,h2,h3⟩ then some x.c else sW rs A ⟨h0,h1,h2,h3⟩ r:=by rw[Xd];exact Du UU hx
   change Hid _ at JO hq JK Xd Kv;by_cases hc:(th && decide (at_<i))=true
   ·rw[ZP hc] at PB;simp only[Bool.and_eq_true,decide_eq_true_eq] at hc;obtain⟨SG,KQ⟩:=hc;subst SG;have ME:decide (at_<(i:Int))=true:=ZT KQ;obtain⟨g1,g2⟩:=Sn rfl;obtain⟨j,rfl⟩:∃j:Nat,at_=j:=⟨at_.toNat,by omega⟩;simp only[Int.toNat_natCast] at g2;obtain⟨y,hy⟩:∃y,rs[j]?=some y:=⟨_,List.getElem?_eq_getElem (by rw[Tp.out];exact g2)⟩;have hm:Wl=some y.c:=by rw[PB,UU];simp[hy]
    obtain⟨rfl,rfl⟩:=hso _ hm;have cy:=R0.cell hy 8 (u:=ι ε y.c) rfl;have gj:(j:Int)<rn:=ρa;have jn:(j:Int)<=1000:=ρa;change Hid _ at hm PB;go_wp2_with fail;refine ZO (v:=χ #[ι ε y.c,Kz]) τO rfl ⟨rfl,(JG.step0 ρE).toBelow⟩
   ·rw[ZI hc] at PB;obtain⟨s,hs⟩:=Nq (jh x ⟨h0,h1,h2,h3⟩);rw[hs] at PB;have hth2:∀Q:Prop,(th=false->Q)->(th=true->decide (at_<(i:Int))=false->Q)->Q:=λQ f g=>by cases th with|false=>exact f rfl|true=>exact g rfl (by simpa using hc)
    refine hth2 _ (λSG=>?_) (λSG ME=>?_)
    all_goals
     subst SG;replace PB:=ag PB;have NI:=λv=>vY x ⟨h0,h1,h2,h3⟩ v;rw[hs] at NI;simp only[kv] at NI;go_upto_region 8 with (fail);refine Zw (θ5 JG T0 R0 S0 H0) ?_;rintro LD ⟨KE,T11,N4,WJ,Uz⟩;replace cT:=T11.cell;replace fT:=T11.frozen;replace zT:=T11.size;clear Ss;replace Rr:=Uz.r;replace lS0:=(HI.cell WJ q i MS).1;have qT:=ae T11;have qS0:=λd os=>(HI.cell (WJ.below (ZW _ d os)) q i MS).1;have qH:=ae Uz;refine Wq ?_
     repeat (first
      | (refine qI 88 (.tmp 41) g (off+i*9) (pB x) _ rfl rfl ρs (λw' hb=>aS.rng (aS.below N4 hb) hx) Tryz.underlying88 rfl ρh ?_;simp only[pB];(try simp only[Act.put,List.setIfInBounds_toArray,List.set_cons_succ,List.set_cons_zero]))
      | (go_big_quiet_step ((first
       | (go_at_call 125;(with_reducible exact bZ (NI _)))))))
     refine Zq (θ5 T11 N4 WJ Uz KE) ?_;rintro Oe ⟨T12,Rp,S12,H12,Kl⟩;replace cT:=T12.cell;replace fT:=T12.frozen;replace zT:=T12.size;replace Rr:=H12.r;replace lS0:=(HI.cell S12 q i MS).1;clear qT qS0 qH T11 N4 WJ Uz;have z12:=Kl.size;rcases s with _|_
     ·go_wp2;go_roundw;case rel=>exact⟨a++[(i:Int)],r,by rw[ZL,hq.out];go_num,by rw[JK.out];simp,by rw[PB.out];rfl,T12.below ρE T12.size,Rp.below ρE,af.below S12 ρE,H12.below ρE H12.size,Kl.step0 ρE⟩
      case measure=>exact ξc
     ·have hm:Wl=some x.c:=by rw[PB.out];rfl
      obtain⟨rfl,rfl⟩:=hso _ hm;have cy:=Rp.cell hx 8 (u:=ι ε x.c) rfl;replace hm:=ag hm;go_wp2_with fail;refine ZO (v:=χ #[ι ε x.c,Kz]) τO rfl ⟨rfl,(Kl.step0 ρE).toBelow⟩
theorem Bg (v:ϗ)(L:List RL)(B:Nat)(w:ϖ)(G:aS 9 pB w B v L)(hL:L.length<=1000):Calls Ψ 73 #[v] w λe w'=>∃v',e=ϰ v'/\af 88 9 pB w' w v' L/\Below w w w':=by
 have G0:=G;obtain⟨oa,oc,rfl,-⟩:=G0.slice;cases oa with
 | none=>
  have hL:L=[]:=by obtain⟨_,_,e,_,_,h,_⟩:=G;exact(h (ZV e).1.symm).2
  subst hL;have hc:oc=0:=by obtain⟨_,_,e,_,_,h,_⟩:=G;rw[(ZV e).2.2];exact(h (ZV e).1.symm).1
  subst hc;have hq:=λ(w:ϖ) (a:Option Addr) n c=>Lib.run_eql_slice_nil (P:=Ψ) w 78 88 a n c 0 0 Tryz.underlying78;go_in;go_wp2;go_ret;exact⟨_,rfl,af.nil _ _,ρE⟩
 | some ad=>obtain⟨n,hn⟩:=Nq L.length;have G1:=G;rw[hn] at G1 ⊢;have hq:=λ(w:ϖ) (a:Option Addr) n c=>Lib.run_eql_slice_nil (P:=Ψ) w 78 88 a n c 0 0 Tryz.underlying78;go_in;go_upto_region 3 with (fail);go_wp2_with (refine kD Tryz.underlying78 BN rfl (λ_=>rfl) (λ_ _ h=>by simp[pB] at h;rcases h with rfl | rfl | rfl | rfl | rfl | rfl | rfl | rfl | rfl<;>rfl) ρf ρf rfl (.tmp 5) (.tmp 6) rfl w B _ _ [] L ρs ρs (af.zero ρB (ZR _)) (aS.below G1 ρE) ρJ ρp ?_;intro v' w' H' kx);go_ret;refine⟨_,rfl,H',?_⟩;have b1:Below w w w':=kx.below (B:=w.heap.size) ρp (λx hx e=>by simp[Value.ownBlock] at e;omega) |> λh=>(Below.trans ρE h);exact b1.trans ρE
def FU (l:List RL):Prop:=l.length<=32/\∀r ∈ l,1<=r.c/\r.c<=65536/\jR r.w r.m=r.w
def eM:List RL->Nat->List FW->List Int->List FW × List Int
 | [],_,ex,ms=>(ex,ms)
 | r::l,i,ex,ms=>if r.m≠je then eM l (i+1) ex (ms++[(i:Int)]) else if (bL ex r.w 0).isSome=true then eM l (i+1) ex ms else eM l (i+1) (ex++[⟨r.w,i⟩]) ms
theorem bw.made (w:ϖ):bw (w.alloc (.map #[] 0)) w []:=⟨#[],0,(MapKept.heap_alloc w _).1,rfl⟩
theorem bw.alloc {w:ϖ} {M:Nat} {L:List FW} (h:bw w M L)(o:Obj):bw (w.alloc o) M L:=h.of_eq ((MapKept.heap_alloc w o).2 M h.size)
theorem rh {w w':ϖ} {M:Nat} {L:List FW} (h:bw w M L)(k:K4) {f:ϗ} (hr:(Instr.mapUpdate 162 (.map (some M)) (kv k) f).run Ψ w=.ok () w')(hk:∀b,b≠M->w'.heap[b]?=w.heap[b]?)(hb:w'.heap.size=w)(h2:Below M w w'):KO (λx=>x=M) w w':=⟨h2.os,h2.tape,h2.output,by omega,λb _ hbM=>hk b hbM⟩
theorem CF (v:ϗ)(l:List RL)(B:Nat)(w:ϖ)(G:aS 9 pB w B v l)(hl:l.length<=1000):Calls Ψ 50 #[v] w λe w'=>∃u n,e=ϰ (χ #[u,ι ε n])/\Below w w w'/\((n≠0/\¬FU l)\/(n=0/\∃B2 fp,u=ψ (some ⟨B2,0,none⟩)/\(∀x,fp x->w.heap.size<=x)/\bE w' B2 l (eM l 0 [] []).1 (eM l 0 [] []).2 fp)):=by
 obtain⟨oa,oc,rfl,-⟩:=G.slice;obtain⟨n,hn⟩:=Nq l.length;have G1:=G;rw[hn] at G1 hl ⊢;go_in;go_upto_region 1 with (fail);by_cases h32:32<n
 ·have d0:=dt ((32:Int)<(n:Int));go_wp2;refine ZO (v:=χ #[Kp,ι ε 2]) τj rfl ⟨_,2,rfl,ρE,.inl ⟨by omega,λh=>by unfold FU at h;omega⟩⟩
 have d0:=df ((32:Int)<(n:Int));go_wp2_with fail;refine(Bg _ l B _ (aS.below G1 ρE) ρa).mono ?_;rintro e v2 ⟨cv,rfl,C2,k2⟩;have b2:Below w w v2:=Below.trans ρE (k2.mono (by first|exact ZR _|(simp;done)|(simp;omega)));have z2:=b2.size;replace C2:=af.base_le C2 (b':=w.heap.size) (by first|exact ZR _|(simp;done)|(simp;omega));obtain⟨ca,cc,rfl⟩:=af.slice C2;rw[hn];rw[hn] at C2;have zB:B<=w:=by obtain⟨_,_,_,_,h3,_⟩:=G1;exact h3
 have G2:=aS.belowK G1 b2 zB;clear k2;have XL:∀x,some x=(Value.slice ca n cc).ownBlock->x<v2.heap.size:=λx hx=>(af.own_ge C2 x hx.symm).2;have Uk:=@run_makeMap Ψ;replace hn:=ag hn;have JE:KO (λ_=>False) w v2:=KO.of_below b2;go_wp2_with fail;refine Jw (θ3 JE C2 G2) (λv=>ah v ((v2+1)) #[ζ ca n cc,.map (some v2),Kn] 164/\bw v v2 []) ⟨ρB,(bw.made v2).alloc _⟩ ?_;rintro v3 ⟨T3,E3⟩ ⟨JI,C3,G3⟩;replace rT:=T3.r;have z3:=JI.size;have b3:=JI.toBelow;have z23:v2.heap.size+1<v3:=rT.2.2;clear Uk;go_loopw [19] (λk wr=>∃(a b:List RL) (ex:List FW) (ms:List Int) (mv:ϗ),k=ι ε (a.length:Nat)/\l=a++b/\eM l 0 [] []=eM b a.length ex ms/\(∀r ∈ a,1<=r.c/\r.c<=65536/\jR r.w r.m=r.w)/\ms.length<=a.length/\(∀f ∈ ex,0<=f.p/\f.p.toNat<a.length)/\(∀i ∈ ms,0<=i/\i.toNat<a.length)/\af 88 9 pB wr w (ζ ca n cc) l/\aS 9 pB wr B (ζ oa n oc) l/\ah wr (v2+1) #[ζ ca n cc,.map (some v2),mv] 164/\bw wr v2 ex/\HI wr v3 mv ms/\KO (λx=>x=v2.heap.size+1\/x=v2.heap.size) v3 wr) (λk _=>n - (intOf k).toNat);case atStart=>exact⟨[],l,[],[],_,rfl,rfl,rfl,λ_ h=>by simp at h,ZR _,λ_ h=>by simp at h,λ_ h=>by simp at h,C3,G3,T3,E3,af.nil _ _,KO.refl _ _⟩
 case round=>
  obtain⟨a,b,ex,ms,mv,rfl,JK,Tr,Kf,Uj,RF,Vf,C0,G0,T0,E0,S0,JG⟩:=hrel;have zw:=JG.size;clear C3 G3 T3 E3 JI C2 G2 JE;have JO:a.length+b.length=n:=σR;obtain⟨q,hq⟩:=Nq a.length;rw[hq] at JO Tr Uj RF Vf ⊢;obtain⟨ma,Tx,rfl⟩:=af.slice S0;obtain⟨mn,Pf⟩:=Nq ms.length;rw[Pf] at T0 S0 Uj;have rT:=T0.r;have zC:∀x,some x=(Value.slice ca n cc).ownBlock->x<v2.heap.size:=XL;have zB3:B<=w:=zB;cases b with
  | nil=>
   refine η4 ?_;intro JM hd;have ha:a=l:=ρL;have My:q=n:=by rw[<- hq,ha,hn.out]
   simp only[eM] at Tr;change Hid _ at JO hq JK Tr ha;go_wp2_with fail;refine ZO (v:=χ #[ψ (some ⟨v2+1,0,none⟩),Kz]) τj rfl ⟨_,0,rfl,(b3.trans (JG.below (B:=w.heap.size) ρa τu)).trans ρE,.inr ⟨rfl,?_⟩⟩;refine⟨v2+1,rfl,λx=>x=v2.heap.size+1\/x=v2\/some x=(Value.slice ca n cc).ownBlock\/some x=(Value.slice ma mn Tx).ownBlock,?_,?_⟩
   ·rintro x (rfl|rfl|h|h)
    ·omega
    ·omega
    ·exact(af.own_ge C0 x h.symm).1
    ·have:=(af.own_ge S0 x h.symm).1;omega
   ·rw[Tr.out];refine bE.below ⟨w,v2,_,_,T0,C0,E0,af.base_le S0 ρa,⟨by rw[hn.out];omega,by rw[Pf];omega⟩,λf hf=>by rw[hn.out,<- My];exact RF f hf,λi hi=>by rw[hn.out,<- My];exact Vf i hi,λx h=>h,?_⟩ ρE;rintro x (rfl|rfl|h|h)
    ·exact T0.size
    ·exact E0.size
    ·exact(af.own_ge C0 x h.symm).2
    ·exact(af.own_ge S0 x h.symm).2
  | cons r rest=>
    obtain⟨⟨k0,k1,k2,k3⟩,⟨j0,j1,j2,j3⟩,cl⟩:=r;refine η5 ?_;intro JM hd;have MS:l[q]?=some ⟨⟨k0,k1,k2,k3⟩,⟨j0,j1,j2,j3⟩,cl⟩:=ρC;have NW:(⟨⟨k0,k1,k2,k3⟩,⟨j0,j1,j2,j3⟩,cl⟩:RL) ∈ l:=ρP;obtain⟨g,off,rfl,hg,RA⟩:=G0.at MS;have My:q<n:=ρa;have hu:=λv=>uI ⟨j0,j1,j2,j3⟩ ⟨k0,k1,k2,k3⟩ v;have he:=λv=>CA (jR ⟨j0,j1,j2,j3⟩ ⟨k0,k1,k2,k3⟩) ⟨j0,j1,j2,j3⟩ v;have hra:jR ⟨j0,j1,j2,j3⟩ ⟨k0,k1,k2,k3⟩=⟨j0,j1,j2,j3⟩↔decide (jR ⟨j0,j1,j2,j3⟩ ⟨k0,k1,k2,k3⟩≠⟨j0,j1,j2,j3⟩)=false:=ρp;obtain⟨z,hz⟩:=Nq (jR ⟨j0,j1,j2,j3⟩ ⟨k0,k1,k2,k3⟩);rw[hz] at hu he hra;obtain⟨s,hs⟩:=Nq (decide (z≠⟨j0,j1,j2,j3⟩));rw[hs] at he hra;have Pg:cl<1\/65536<cl\/s=true->¬FU l:=λh hr=>by have:=hr.2 _ NW;rcases h with h|h|h;(· have:=this.1;simp only at this;omega);(· have:=this.2.1;simp only at this;omega);(· have h3:jR ⟨j0,j1,j2,j3⟩ ⟨k0,k1,k2,k3⟩=⟨j0,j1,j2,j3⟩:=this.2.2;rw[hz] at h3;rw[hra.1 h3] at h;cases h)
    obtain⟨z0,z1,z2_,z3_⟩:=z;simp only[kv] at hu he;have Wg:=λv=>CA ⟨k0,k1,k2,k3⟩ je v;obtain⟨s2,Ki⟩:=Nq (decide ((⟨k0,k1,k2,k3⟩:K4)≠je));rw[Ki] at Wg;simp only[kv,je] at Wg;have hwh:=λv=>Bh v;simp only[kv,je] at hwh;have ll:∀{v:ϖ},bw v v2 ex->(Instr.lookup 162 (.map (some v2)) (φ #[ι ω j0,ι ω j1,ι ω j2,ι ω j3]) true).run Ψ v=.ok (χ #[ι ε (Cl (bL ex ⟨j0,j1,j2,j3⟩ 0)),β (bL ex ⟨j0,j1,j2,j3⟩ 0).isSome]) v:=λhv=>nE hv ⟨j0,j1,j2,j3⟩;obtain⟨at_,Mq⟩:=Nq (Cl (bL ex ⟨j0,j1,j2,j3⟩ 0));obtain⟨th,SG⟩:=Nq ((bL ex ⟨j0,j1,j2,j3⟩ 0).isSome);rw[Mq,SG] at ll;have Xu:eM l 0 [] []=if s2=true then eM rest (q+1) ex (ms++[(q:Int)]) else if th=true then eM rest (q+1) ex ms else eM rest (q+1) (ex++[⟨⟨j0,j1,j2,j3⟩,q⟩]) ms:=by rw[Tr,eM,<- SG];simp only[<- Ki];by_cases h:(⟨k0,k1,k2,k3⟩:K4)=je<;>simp[h]
    change Hid _ at JO hq JK Tr Xu Pg hra hz NW hs Ki SG Mq;go_upto_region 7 with (refine Go.wpList_load_mid rfl 88 _ rfl g (off+q*9) rfl (pB ⟨⟨k0,k1,k2,k3⟩,⟨j0,j1,j2,j3⟩,cl⟩) _ RA Tryz.underlying88 rfl ρh ?_;try simp only[pB]);refine jf (θ6 JG C0 G0 T0 E0 S0) (λv=>ah v wr #[ι ω k0,ι ω k1,ι ω k2,ι ω k3,ι ω j0,ι ω j1,ι ω j2,ι ω j3,ι ε cl] 88) ρB ?_;rintro v21 X21 ⟨PJ,C21,G21,T21,E21,S21⟩ Rr;replace rT:=T21.r;have Ss:=X21.r;replace NL:=(ll E21);have z21:=PJ.size;by_cases c1:cl<1
    ·have d1:=ZT c1;refine δw ?_;clear Rr Ss rT NL;intro QM Ni SN Rk Rv Qj Qo Sl Rr rT NL qT QJ qX
     repeat (go_big_quiet_step ((first
       | (go_at_call 74;(with_reducible exact bZ (hu _))))))
     refine bB (θ7 SN Rk Rv Qj Qo Sl Ni) ?_;clear Rr;rintro v23 ⟨C23,G23,XY,VH,WK,VO,PM⟩ Rr;replace rT:=XY.r;replace NL:=(ll VH);clear qT QJ qX SN Rk Rv Qj Qo Sl;go_wp2_with fail;refine ZO (v:=χ #[Kp,Ko]) τj rfl ⟨_,1,rfl,(b3.trans (PM.below (B:=w.heap.size) ρa τu)).trans ρE,.inl ⟨by omega,Pg.out (.inl c1)⟩⟩
    have d1:=ZF c1;by_cases c2:65536<cl
    ·have d2:=ZT c2;refine δw ?_;clear Rr Ss rT NL;intro QM Ni SN Rk Rv Qj Qo Sl Rr rT NL qT QJ qX
     repeat (go_big_quiet_step ((first
       | (go_at_call 74;(with_reducible exact bZ (hu _))))))
     refine bB (θ7 SN Rk Rv Qj Qo Sl Ni) ?_;clear Rr;rintro v23 ⟨C23,G23,XY,VH,WK,VO,PM⟩ Rr;replace rT:=XY.r;replace NL:=(ll VH);clear qT QJ qX SN Rk Rv Qj Qo Sl;go_wp2_with fail;refine ZO (v:=χ #[Kp,Ko]) τj rfl ⟨_,1,rfl,(b3.trans (PM.below (B:=w.heap.size) ρa τu)).trans ρE,.inl ⟨by omega,Pg.out (.inr (.inl c2))⟩⟩
    have d2:=ZF c2;rcases s with _|_
    rotate_left
    ·refine δw ?_;clear Rr Ss rT NL;intro QM Ni SN Rk Rv Qj Qo Sl Rr rT NL qT QJ qX
     repeat (go_big_quiet_step ((first
       | (go_at_call 74;(with_reducible exact bZ (hu _))))))
     refine bB (θ7 SN Rk Rv Qj Qo Sl Ni) ?_;clear Rr;rintro v23 ⟨C23,G23,XY,VH,WK,VO,PM⟩ Rr;replace rT:=XY.r;replace NL:=(ll VH);clear qT QJ qX SN Rk Rv Qj Qo Sl;go_wp2_with fail;refine ZO (v:=χ #[Kp,Ko]) τj rfl ⟨_,1,rfl,(b3.trans (PM.below (B:=w.heap.size) ρa τu)).trans ρE,.inl ⟨by omega,Pg.out (.inr (.inr ρp))⟩⟩
    skip;refine δw ?_;clear Rr Ss rT NL;intro QM Ni SN Rk Rv Qj Qo Sl Rr rT NL qT QJ qX
    repeat (go_big_quiet_step ((first
      | (go_at_call 74;(with_reducible exact bZ (hu _))))))
    refine bB (θ7 SN Rk Rv Qj Qo Sl Ni) ?_;clear Rr;rintro v23 ⟨C23,G23,XY,VH,WK,VO,PM⟩ Rr;replace rT:=XY.r;replace NL:=(ll VH);clear qT QJ qX SN Rk Rv Qj Qo Sl;go_upto_region 9 with (fail);refine bK (θ7 PM C23 G23 XY VH WK VO) ?_;clear Rr;rintro v24 ⟨k024,C24,G24,T24,E24,Zp,P9⟩ Rr;replace rT:=T24.r;replace NL:=(ll E24);have qT:=ae T24;have QJ:=λd os=>(ll (E24.below (ZW _ d os)));have qX:=ae P9;refine Wq ?_;refine nZ ?_;refine bB (θ7 C24 G24 T24 E24 Zp P9 k024) ?_;clear Rr;rintro v25 ⟨C25,G25,T25,E25,S25,Sm,Vo⟩ Rr;replace rT:=T25.r;replace NL:=(ll E25);clear qT QJ qX C24 G24 T24 E24 Zp P9;go_upto_region 10 with (fail);refine bK (θ7 Vo C25 G25 T25 E25 S25 Sm) ?_;clear Rr;rintro YQ ⟨Xy,C26,G26,T26,YW,XW,WO⟩ Rr;replace rT:=T26.r;replace NL:=(ll YW);have qT:=ae T26;have QJ:=λd os=>(ll (YW.below (ZW _ d os)));have qX:=ae WO;refine Wq ?_
    repeat (go_big_quiet_step ((first
      | (go_at_call 75;(with_reducible exact bZ (hwh _))))))
    refine bB (θ7 C26 G26 T26 YW XW WO Xy) ?_;clear Rr;rintro v27 ⟨C27,G27,T27,E27,Sj,XZ,Tv⟩ Rr;replace rT:=T27.r;replace NL:=(ll E27);clear qT QJ qX C26 G26 T26 YW XW WO;have z27:=Tv.size;have Vh:∀r ∈ a++[(⟨⟨k0,k1,k2,k3⟩,⟨j0,j1,j2,j3⟩,cl⟩:RL)],1<=r.c/\r.c<=65536/\jR r.w r.m=r.w:=λr hr=>by
     rcases ZM.1 hr with h|h
     ·exact Kf r h
     ·simp only[ZS] at h;subst h;exact⟨by simp only;omega,by simp only;omega,(hz.out).trans (hra.out.2 rfl)⟩
    replace Vh:=ag Vh;rcases s2 with _|_
    rotate_left
    ·have KV:ms.length<=1000000:=by rw[Pf];omega
     go_wp2_with (refine aw Tryz.underlying45 cD rfl (λ_=>rfl) ρI ρf ρf rfl (.tmp 61) (.tmp 63) rfl v3 (ζ ma mn Tx) ms (q:Int) v27 #[ι ε (q:Int)] rfl ρs ρs (Sj.below ρE) ρB (by rw[Pf];omega) τA ?_;intro o28 v28 TU kx;replace kx:=kx.of_alloc;have C28:=C27.ko kx (λx hx hh h=>af.notown Sj (by have:=zC x hh;omega) h);have G28:=G27.ko kx (λy hy h=>af.notown Sj ρa h);have T28:=T27.ko kx (λh=>af.ne_blk Sj T27 ρf h);have XT:=E27.ko kx (af.notown Sj ρa);have UN:=XZ.ko kx (λh=>af.ne_blk Sj XZ ρf h);have Tw:KO (λx=>x=v2.heap.size+1\/x=v2) v3 v28:=Tv.trans kx (by intro y hy h;exact az h (af.notown Sj hy));have zk28:=Tw.size;replace rT:=T28.r;replace rX:=UN.r;replace NL:=(ll XT);have hml2:(ms++[(q:Int)]).length=mn+1:=(by rw[ZL,Pf];rfl);obtain⟨ma2,mcap2,rfl⟩:=af.slice TU;rw[hml2] at TU;rw[hml2]);go_roundw;case rel=>exact⟨a++[⟨⟨k0,k1,k2,k3⟩,⟨j0,j1,j2,j3⟩,cl⟩],rest,ex,ms++[(q:Int)],ζ ma2 (mn+1) mcap2,by rw[ZL,hq.out];go_num,by rw[JK.out];simp,by rw[Xu.out,ZL,hq.out];simp,Vh.out,by rw[hml2,ZL,hq.out];simp;omega,by rw[ZL,hq.out];exact λf hf=>by have:=RF f hf;simp;omega,by rw[ZL,hq.out];exact(λi hi=>by rcases ZM.1 hi with h|h;(· have:=Vf i h;simp;omega);(· simp at h;subst h;simp)),af.ko C28 (ρK:KO (λx=>x=v2.heap.size+1) v28 _) (λx hx hh e=>by have:=zC x hh;(try dsimp only at e);omega),aS.ko G28 (ρK:KO (λx=>x=v2.heap.size+1) v28 _) (λy hy e=>by (try dsimp only at e);omega),ρB,bw.ko XT (ρK:KO (λx=>x=v2.heap.size+1) v28 _) (by intro e;(try dsimp only at e);omega),af.ko TU (ρK:KO (λx=>x=v2.heap.size+1) v28 _) τr,Tw.trans (ρK:KO (λx=>x=v2.heap.size+1) v28 _) σw⟩
     case measure=>exact ξc
    rcases th with _|_
    rotate_left
    ·go_wp2;go_roundw;case rel=>exact⟨a++[⟨⟨k0,k1,k2,k3⟩,⟨j0,j1,j2,j3⟩,cl⟩],rest,ex,ms,_,by rw[ZL,hq.out];go_num,by rw[JK.out];simp,by rw[Xu.out,ZL,hq.out];simp,Vh.out,by rw[ZL,hq.out];simp;omega,by rw[ZL,hq.out];exact λf hf=>by have:=RF f hf;simp;omega,by rw[ZL,hq.out];exact λi hi=>by have:=Vf i hi;simp;omega,C27.below ρE,G27.below ρE,T27.below ρE T27.size,E27.below ρE,af.below Sj ρE,Tv.step0 ρE⟩
     case measure=>exact ξc
    go_upto_region 13 with (fail);refine bK (θ7 Tv C27 G27 T27 E27 Sj XZ) ?_;clear Rr;rintro v28 ⟨Tw,C28,G28,T28,XT,TU,UN⟩ Rr;replace rT:=T28.r;replace NL:=(ll XT);have qT:=ae T28;have QJ:=λd os=>(ll (XT.below (ZW _ d os)));have qX:=ae UN;refine Ws 7 (gC ?_);refine bB (θ7 C28 G28 T28 XT TU UN Tw) ?_;clear Rr;rintro v29 ⟨C29,G29,T29,E29,Zr,X29,Vp⟩ Rr;replace rT:=T29.r;replace NL:=(ll E29);clear qT QJ qX C28 G28 T28 XT TU UN;obtain⟨v31,Kk,E31,kb,zz,kbb⟩:=yR E29 ⟨j0,j1,j2,j3⟩ ⟨⟨j0,j1,j2,j3⟩,(q:Int)⟩ rfl (by have:=SG.out;cases hf:bL ex ⟨j0,j1,j2,j3⟩ 0 with|none=>rfl|some p=>rw[hf] at this;cases this);have ky:KO (λx=>x=v2.heap.size) v29 v31:=rh E29 ⟨j0,j1,j2,j3⟩ Kk kb zz kbb;simp only[kv,fv] at Kk;go_wp2;go_roundw;case rel=>exact⟨a++[⟨⟨k0,k1,k2,k3⟩,⟨j0,j1,j2,j3⟩,cl⟩],rest,ex++[⟨⟨j0,j1,j2,j3⟩,(q:Int)⟩],ms,ζ ma mn Tx,by rw[ZL,hq.out];go_num,by rw[JK.out];simp,by rw[Xu.out,ZL,hq.out];simp,Vh.out,by rw[ZL,hq.out];simp;omega,by rw[ZL,hq.out];exact(λf hf=>by rcases ZM.1 hf with h|h;(· have:=RF f h;simp;omega);(· simp at h;subst h;simp)),by rw[ZL,hq.out];exact λi hi=>by have:=Vf i hi;simp;omega,(af.ko C29 ky (λx hx hh e=>by have:=zC x hh;(try dsimp only at e);omega)).below ρE,(aS.ko G29 ky (λy hy e=>by (try dsimp only at e);omega)).below ρE,T29.ko ky (by intro e;(try dsimp only at e);omega),E31.below ρE,af.below (af.ko Zr ky τr) ρE,(Vp.trans ky σw).step0 ρE⟩
    case measure=>exact ξc
theorem Gi (w:ϖ):Calls Ψ 51 #[] w λe w'=>∃B fp,e=ϰ (pt B)/\(∀x,fp x->w.heap.size<=x)/\aZ w' B fp 0/\Below w w w':=by have Uk:=@run_makeMap Ψ;go_in;go_wp2_with fail;refine ZO (v:=pt (w+1+1)) (by simp[results,Tryz.results51,go_sem,pt]) rfl ?_;exact⟨w+1+1,λx=>w.heap.size<=x/\x<w.heap.size+3,rfl,λx hx=>hx.1,⟨w,w.heap.size+1,[],[],ρB,(((aB.made w).alloc _).alloc _),by have:=(aB.made (w.alloc (.map #[] 0))).alloc (.cells #[.map (some w),.map (some (w+1))] 171);simpa using this,λp hp=>by simp at hp,λp hp=>by simp at hp,by omega,by omega,by omega,by omega,λx hx=>by simp;omega⟩,ρE⟩
theorem AP {w W w1:ϖ} {B MC MR N:Nat} {LC LR:List (Int × ϗ)} {fp:Nat->Prop} {v':ϗ} (h1:ah w B #[.map (some MC),.map (some MR)] 171)(h2:aB w MC LC)(h3:aB w MR LR)(h4:∀p ∈ LC,QS w fp N p.2)(h5:∀p ∈ LR,∃a b c d e:Int,p.2=φ #[a,b,c,d,e])(h6:fp B)(h7:fp MC)(h8:fp MR)(h9:MC≠MR)(Qr:∀x,fp x->x<w.heap.size)
  (hW:Below w w W) (q1:QS w1 (λx=>fp x\/(W<=x/\x<w1)) (N+1) v') (q2:∀u,QS W fp N u->QS w1 (λx=>fp x\/(W<=x/\x<w1)) (N+1) u) (q3:∃F:Nat->Prop,KO F W w1/\∀x,F x->fp x/\∃cs,ah W x cs 39) (c:Int):
  ah w1 B #[.map (some MC),.map (some MR)] 171/\aB w1 MC LC/\∃w2,(Instr.mapUpdate 168 (.map (some MC)) (ι ε c) v').run Ψ w1=.ok () w2/\ah w2 B #[.map (some MC),.map (some MR)] 171/\∃NF,(∀x,NF x->fp x\/w.heap.size<=x)/\aZ w2 B NF (N+1)/\KO fp w w2:=by
 obtain⟨F,kF,hF⟩:=q3;obtain⟨kW,B1⟩:=Mw hW (θ2 (Ks (λ_=>False) w) h1);have nB:¬F B:=λh=>by obtain⟨_,cs,hb⟩:=hF B h;exact az (dX B1 hb ρf) ρp
 have nM:∀{M L},aB W M L->¬F M:=λhm h=>by obtain⟨_,cs,hb⟩:=hF _ h;exact az (aC hb hm) ρp
 have M1:=(h2.below hW);have R1:=h3.below hW;have B2:=B1.ko kF nB;have M2:=M1.ko kF (nM M1);have R2:=R1.ko kF (nM R1);obtain⟨w2,Kk,M3,k2,z2⟩:=bv Tryz.underlying168 Θ M2 c v';have nb:∀{g cs},ah w1 g cs 39->g≠MC:=λhb=>aC hb M2;have hup:∀u,QS w1 (λx=>fp x\/(W<=x/\x<w1)) (N+1) u->QS w2 (λx=>fp x\/(W<=x/\x<w1)) (N+1) u:=λu hu=>hu.of_ko (ZR _) (λ_ h=>h) k2 (λg cs _ hb e=>nb hb e);have B3:=B2.ko k2 (aC B2 M2);refine⟨B2,M2,w2,Kk,B3,λx=>fp x\/(W<=x/\x<w1),λx hx=>?_,⟨MC,MR,_,LR,B3,M3,R2.ko k2 (Ne.symm h9),λp hp=>?_,h5,.inl h6,.inl h7,.inl h8,h9,λx hx=>?_⟩,?_⟩
 ·rcases hx with h|h
  ·exact .inl h
  ·exact .inr (ZK kW.size h.1)
 ·rcases jC hp with h|h
  ·rw[h];exact hup _ q1
  ·exact hup _ (q2 _ ((h4 p h).of_ko (ZR _) (λ_ h=>h) kW (λ_ _ _ _ f=>f)))
 ·rcases hx with h|h
  ·exact ZB (Qr x h) (ZK kW.size (ZK kF.size k2.size))
  ·rw[z2];exact h.2
 ·exact((KO.of_below hW).trans kF (λx _ h=>(hF x h).1)).trans k2 (λx _ h=>by rw[h];exact h7)
theorem El (B N:Nat)(fp:Nat->Prop)(c at_:Int)(w:ϖ)(H:aZ w B fp N)(hN:N<=1000000):Calls Ψ 87 #[pt B,ι ε c,at_] w λe w'=>e=ϰ Kz/\∃NF,(∀x,NF x->fp x\/w.heap.size<=x)/\aZ w' B NF (N+1)/\KO fp w w':=by
 obtain⟨MC,MR,LC,LR,H1,H2,H3,H4,H5,H6,H7,H8,H9,TO⟩:=H;have nC:=aC H1 H2;have nR:=aC H1 H3;have Q:=QS.look H4 c;obtain⟨v,hv⟩:=Nq ((lk c LC).getD Kn);rw[hv] at Q;have hl:∀{u:ϖ},aB u MC LC->(Instr.lookup 168 (.map (some MC)) (ι ε c) false).run Ψ u=.ok v u:=λhu=>by rw[<- hv];exact(am Tryz.underlying168 Θ hu c ρm).2
 have Rr:=H1.r;go_in;go_wp2_with fail;have l1:=hl (aB.drew H2);have l2:=hl (aB.drew (aB.alloc H2 (.cells #[at_] 39)));have l3:=hl (aB.alloc (aB.drew H2) (.cells #[at_] 39));go_region_held_law (λx=>∀i,x.cell? ⟨B,i,none⟩=#[.map (some MC),.map (some MR)][i]?) (first|(with_reducible exact ah.cell OQ)|(with_reducible exact ah.cell Ua)|(refine λi=>(ah.cell (ah.drew (ah.alloc_old H1 _)) i).trans ?_;first|rfl|(simp;done))|(refine λi=>(ah.cell (ah.alloc_old H1 _) i).trans ?_;first|rfl|(simp;done))|exact ah.cell H1) ((refine mV ρs (.tmp 19) (.tmp 21) ρs ρs (QS.of_ko Q (ZR _) (λ_ h=>h) (KO.of_below (F:=λ_=>False) ρE) (λ_ _ _ _ f=>f)) hN (λx hx=>ZB (TO x hx) (by first|omega|(simp;done)|(simp;omega))) (X:=w.heap.size) (k:=at_) ρs ρB ?_;intro v' w1 q1 q2 q3;obtain⟨Ua,hM1,w2,Kk,OQ,RE⟩:=AP H1 H2 H3 H4 H5 H6 H7 H8 H9 TO ρE q1 q2 q3 c))
 all_goals
  go_wp2;go_ret;exact⟨rfl,RE⟩
theorem Eo (B N:Nat)(fp:Nat->Prop)(c d n:Int)(b:Bool)(w:ϖ)(H:aZ w B fp N):Calls Ψ 131 #[pt B,ι ε c,d,ι ε n,β b] w λe w'=>(∃k:Int,e=ϰ (ι ε k))/\∃NF,(∀x,NF x->fp x\/w.heap.size<=x)/\aZ w' B NF N/\KO fp w w':=by
 obtain⟨MC,MR,LC,LR,H1,H2,H3,H4,H5,H6,H7,H8,H9,TO⟩:=H;have nC:=aC H1 H2;have nR:=aC H1 H3;have Q:=QS.look H4 c;obtain⟨v,hv⟩:=Nq ((lk c LC).getD Kn);rw[hv] at Q;have hl:∀{u:ϖ},aB u MC LC->(Instr.lookup 168 (.map (some MC)) (ι ε c) false).run Ψ u=.ok v u:=λhu=>by rw[<- hv];exact(am Tryz.underlying168 Θ hu c ρm).2
 obtain⟨r0,r1,r2,r3,r4,hr⟩:∃r0 r1 r2 r3 r4:Int,(lk c LR).getD (φ #[Ky,Ky,Ky,Ky,Ky])=φ #[r0,r1,r2,r3,r4]:=by
  cases e:lk c LR with
  | none=>exact⟨0,0,0,0,0,rfl⟩
  | some u=>obtain⟨p,hp,rfl⟩:=oQ e;exact H5 p hp
 have hlr:∀{u:ϖ},aB u MR LR->(Instr.lookup 169 (.map (some MR)) (ι ε c) false).run Ψ u=.ok (φ #[r0,r1,r2,r3,r4]) u:=λhu=>by rw[<- hr];exact(am Tryz.underlying169 Θ hu c ρm).2
 have l1:=hl H2;have lr1:=hlr H3;have Rr:=H1.r;have LW:∀{u:ϖ},Below w w u->∃NF,(∀x,NF x->fp x\/w.heap.size<=x)/\aZ u B NF N/\KO fp w u:=λhu=>⟨fp,λx hx=>.inl hx,(aZ.below ⟨MC,MR,LC,LR,H1,H2,H3,H4,H5,H6,H7,H8,H9,TO⟩ hu),KO.of_below hu⟩;have Q2:=Q;rcases Q with rfl|⟨g,off,m,JN,cs,rfl,h1,h2,h3,h4,h5,h6,h7⟩
 ·exact ηl
 ·rcases Nat.eq_zero_or_pos m with hm|hm
  ·subst hm;exact ηl
  ·obtain⟨t,ht⟩:∃t:Int,cs[off]?=some (ι υ t):=by
    obtain⟨u,hu⟩:∃u,cs[off]?=some u:=⟨_,Array.getElem?_eq_getElem ρa⟩;obtain⟨t,rfl⟩:=h6 off u hu;exact⟨t,hu⟩
   have NI:=df ((m:Int)=0);have rG:=h1.r;have zC:=H2.size;have zR:=H3.size;have cT:=(rG.1 off).trans ht;by_cases c1:n<1
   ·have d1:=ZT c1;exact ηl
   have d1:=ZF c1;by_cases c2:d<t
   ·have d2:=ZT c2;exact ηl
   have d2:=ZF c2;clear hr hv l1 Q2;change Hid _ at H4 H5;go_in;go_upto_region 15 with (fail)
   all_goals
    go_region;go_upto_region 16 with (fail);go_region;go_upto_region 17 with (fail)
   all_goals
    refine aW w (λv=>Below w w v) (λv=>Below w w v/\∃x0 x1 x2 x3 x4:Int,ah v w #[x0,x1,x2,x3,x4] 301) ρE (λkx=>⟨kx,_,_,_,_,_,ρB⟩) ?_;rintro v1 ⟨kx,x0,x1,x2,x3,x4,X1⟩;have zx:=kx.size;obtain⟨B1,C1,R1,G1,I'⟩:=Mw kx (θ5 H1 H2 H3 h1 (Ks (λx=>x=MC\/x=MR) w));clear lr1 rG cT;have rG:=G1.r;have Ss:=θ2 B1.r X1.r;have nG:g≠MC:=aC h1 H2;have nG2:g≠MR:=aC h1 H3;refine bK (θ6 I' B1 X1 C1 R1 G1) ?_;clear Rr Ss;rintro v2 ⟨JE,B2,X2,C2,R2,G2⟩ Rr;replace rG:=G2.r;have q:=θ3 (ae B2) (ae X2) (ae G2);refine Ws 6 (gC ?_);refine bB (θ6 B2 X2 C2 R2 G2 JE) ?_;clear Rr;rintro v3 ⟨B3,X3,C3,R3,G3,JI⟩ Rr;replace rG:=G3.r;clear q B2 X2 C2 R2 G2;obtain⟨v4,Kk,R4,ky,zy⟩:=bv Tryz.underlying169 Θ R3 c (φ #[x0,x1,x2,x3,x4]);have B4:=B3.ko ky ρx;have X4:=X3.ko ky ρx;have C4:=C3.ko ky ρx;have G4:=G3.ko ky ρx;have JJ:KO (λx=>x=MC\/x=MR) w v4:=JI.trans ky (by intro x hx e;(try dsimp only at e);first|exact .inl e|exact .inr e);replace rG:=G4.r;replace Rr:=θ2 B4.r X4.r;clear ky zy;go_upto_region 18 with (fail);have Ng:QS w fp N (if JN=1 then (ζ (some ⟨g,off,none⟩) (m - 1) 0:ϗ) else ζ (some ⟨g,off+1,none⟩) (m - 1) (JN - 1)):=by
     split
     ·exact .inr ⟨g,off,_,_,cs,rfl,h1,by omega,by omega,by omega,by omega,h6,h7⟩
     ·exact .inr ⟨g,off+1,_,_,cs,rfl,h1,by omega,by omega,by omega,by omega,h6,h7⟩
    have Lx:∀u,(Instr.sliceAt 197 (ζ (some ⟨g,off,none⟩) m JN) (some (ι ε 1)) none none).run Ψ u=.ok (if JN=1 then (ζ (some ⟨g,off,none⟩) (m - 1) 0:ϗ) else ζ (some ⟨g,off+1,none⟩) (m - 1) (JN - 1)) u:=λu=>by rw[run_sliceAt_slice _ _ _ _ _ _ ρs,run_slice_l _ _ _ _ _ ρs _ _ ρa ρa];simp[sliced,Result.andThen,go_sem,Addr.add];by_cases e:JN=1<;>simp[e]
    obtain⟨vs,hvs⟩:=Nq (if JN=1 then (ζ (some ⟨g,off,none⟩) (m - 1) 0:ϗ) else ζ (some ⟨g,off+1,none⟩) (m - 1) (JN - 1));rw[hvs] at Ng Lx;clear hvs;refine bK (θ6 JJ B4 X4 C4 R4 G4) ?_;clear Rr;rintro v5 ⟨JP,B5,X5,C5,R5,G5⟩ Rr;replace rG:=G5.r;have q:=θ3 (ae B5) (ae X5) (ae G5);refine Ws 7 (gC ?_);refine bB (θ6 B5 X5 C5 R5 G5 JP) ?_;clear Rr;rintro v6 ⟨B6,X6,C6,R6,G6,JT⟩ Rr;replace rG:=G6.r;clear q B5 X5 C5 R5 G5;obtain⟨v7,Kk,C7,ky,zy⟩:=bv Tryz.underlying168 Θ C6 c vs;have B7:=B6.ko ky ρx;have X7:=X6.ko ky ρx;have R7:=R6.ko ky ρx;have G7:=G6.ko ky ρx;have J7:KO (λx=>x=MC\/x=MR) w v7:=JT.trans ky (by intro x hx e;(try dsimp only at e);first|exact .inl e|exact .inr e);replace rG:=G7.r;replace Rr:=θ2 B7.r X7.r;go_wp2;go_ret;refine⟨⟨_,rfl⟩,fp,λx hx=>.inl hx,aZ.below ⟨MC,MR,_,_,B7,C7,R7,λp hp=>?_,λp hp=>?_,H6,H7,H8,H9,λx hx=>ZB (TO x hx) J7.size⟩ ρE,(J7.step0 ρE).mono (by intro x hx e;rcases e with rfl|rfl;exact H7;exact H8)⟩
    ·have hk:QS w fp N p.2:=by
      rcases jC hp with e|e
      ·rw[e];exact Ng
      ·exact H4.out p e
     exact hk.of_ko (ZR _) (λ_ h=>h) J7 (λg' cs' _ hb e=>by rcases e with e|e;exact aC hb H2 e;exact aC hb H3 e)
    ·rcases jC hp with e|e
     ·exact⟨_,_,_,_,_,e⟩
     ·exact H5.out p e
end Go.Proofs.YtfdlemkplejdnaaGreat
