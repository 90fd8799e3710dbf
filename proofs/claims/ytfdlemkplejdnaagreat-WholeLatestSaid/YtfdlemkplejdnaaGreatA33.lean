/- WholeLatest, part 33. Conditions: none. -/
import Derived.Test.YtfdlemkplejdnaaGreatA23
import Derived.Test.YtfdlemkplejdnaaGreatA30
namespace Go.Proofs.YtfdlemkplejdnaaGreat
open Go.RowKit Go.Sort
open Value renaming int->ι,pointer->ψ,slice->ζ,tuple->χ,agg->φ,map->μ,bool->β
open IntKind renaming u64->υ,i64->ε,u16->ω
open Ending renaming returned->ϰ
open Go.Proofs.Tryz renaming prog->Ψ,underlying3->Θ,underlying147->Δ,underlying152->Γ,underlying202->Φ,underlying39->Ξ,underlying207->Ω
open Go renaming World->ϖ,Value->ϗ
set_option linter.unusedVariables false
set_option linter.unusedSimpArgs false
set_option maxHeartbeats 8000000
set_option maxRecDepth 100000
def jY (h m:K4):K4:=⟨bits .and .u16 h.a m.a,bits .and .u16 h.b m.b,bits .and .u16 h.c m.c,bits .and .u16 h.d m.d⟩
theorem vn (h m:K4)(w:ϖ):CB 74 #[kv h,kv m] w (kv (jY h m)):=by obtain⟨a,b,c,d⟩:=h;obtain⟨x,y,z,u⟩:=m;unfold CB;go_in;go_upto_region 2 with (fail);refine Jw (Ks (λ_=>False) w) (λv=>ah v w #[ι ω a,ι ω b,ι ω c,ι ω d] 48/\ah v ((w+1)) #[ι ω x,ι ω y,ι ω z,ι ω u] 48/\ah v ((w+2)) #[eK,eK,eK,eK] 48) ⟨ρB,ρB,ρB⟩ ?_;rintro v1 ⟨H1,M1,R1⟩ I';replace rR:=R1.r;have Rr:=θ2 H1.r M1.r;refine wp_loop_rounds 5 ?_;rw[di];go_upto_region 4 with (fail);refine bR (θ4 I' H1 M1 R1) ?_;clear Rr;rintro v2 ⟨J',H2,M2,R2⟩ Rr;replace rR:=R2.r;have q:=θ3 (af H2) (af M2) (af R2);refine Ws 8 (gH ?_);refine bE (θ4 H2 M2 R2 J') ?_;clear Rr;rintro v3 ⟨H3,M3,R3,Kk⟩ Rr;replace rR:=R3.r;clear q H2 M2 R2;go_wp2_with fail;refine Il v3 (λx=>x=w.heap.size) (λv=>ah v w #[ι ω (bits .and .u16 a x),ι ω b,ι ω c,ι ω d] 48/\ah v ((w+1)) #[ι ω x,ι ω y,ι ω z,ι ω u] 48/\ah v ((w+2)) #[eK,eK,eK,eK] 48) ⟨ρB,ρB,ρB⟩ (λ_ kx=>(Kk.trans kx σ0)) ?_;rintro v4 ⟨H4,M4,R4⟩ Km;replace rR:=R4.r;replace Rr:=θ2 H4.r M4.r;rw[di];go_upto_region 4 with (fail);refine bR (θ4 Km H4 M4 R4) ?_;clear Rr;rintro v5 ⟨Kw,H5,M5,R5⟩ Rr;replace rR:=R5.r;have q:=θ3 (af H5) (af M5) (af R5);refine Ws 8 (gH ?_);refine bE (θ4 H5 M5 R5 Kw) ?_;clear Rr;rintro v6 ⟨H6,M6,R6,KH⟩ Rr;replace rR:=R6.r;clear q H5 M5 R5;go_wp2_with fail;refine Il v6 (λx=>x=w.heap.size) (λv=>ah v w #[ι ω (bits .and .u16 a x),ι ω (bits .and .u16 b y),ι ω c,ι ω d] 48/\ah v ((w+1)) #[ι ω x,ι ω y,ι ω z,ι ω u] 48/\ah v ((w+2)) #[eK,eK,eK,eK] 48) ⟨ρB,ρB,ρB⟩ (λ_ kx=>(KH.trans kx σ0)) ?_;rintro v7 ⟨H7,M7,R7⟩ KV;replace rR:=R7.r;replace Rr:=θ2 H7.r M7.r;rw[di];go_upto_region 4 with (fail);refine bR (θ4 KV H7 M7 R7) ?_;clear Rr;rintro v8 ⟨KZ,H8,M8,R8⟩ Rr;replace rR:=R8.r;have q:=θ3 (af H8) (af M8) (af R8);refine Ws 8 (gH ?_);refine bE (θ4 H8 M8 R8 KZ) ?_;clear Rr;rintro v9 ⟨H9,M9,R9,Ll⟩ Rr;replace rR:=R9.r;clear q H8 M8 R8;go_wp2_with fail;refine Il v9 (λx=>x=w.heap.size) (λv=>ah v w #[ι ω (bits .and .u16 a x),ι ω (bits .and .u16 b y),ι ω (bits .and .u16 c z),ι ω d] 48/\ah v ((w+1)) #[ι ω x,ι ω y,ι ω z,ι ω u] 48/\ah v ((w+2)) #[eK,eK,eK,eK] 48) ⟨ρB,ρB,ρB⟩ (λ_ kx=>(Ll.trans kx σ0)) ?_;rintro Ps ⟨UC,M10,UG⟩ Lc;replace rR:=UG.r;replace Rr:=θ2 UC.r M10.r;rw[di];go_upto_region 4 with (fail);refine bR (θ4 Lc UC M10 UG) ?_;clear Rr;rintro MN ⟨Ls,Vm,ZJ,OL⟩ Rr;replace rR:=OL.r;have q:=θ3 (af Vm) (af ZJ) (af OL);refine Ws 8 (gH ?_);refine bE (θ4 Vm ZJ OL Ls) ?_;clear Rr;rintro OY ⟨H12,M12,Sq,Le⟩ Rr;replace rR:=Sq.r;clear q Vm ZJ OL;go_wp2_with fail;refine Il OY (λx=>x=w.heap.size) (λv=>ah v w #[ι ω (bits .and .u16 a x),ι ω (bits .and .u16 b y),ι ω (bits .and .u16 c z),ι ω (bits .and .u16 d u)] 48/\ah v ((w+1)) #[ι ω x,ι ω y,ι ω z,ι ω u] 48/\ah v ((w+2)) #[eK,eK,eK,eK] 48) ⟨ρB,ρB,ρB⟩ (λ_ kx=>(Le.trans kx σ0)) ?_;rintro QE ⟨H13,M13,R13⟩ Ml;replace rR:=R13.r;replace Rr:=θ2 H13.r M13.r;rw[di];go_wp2_with fail;refine eR QE (λx=>x=(w.heap.size+2)) (λv=>ah v w #[ι ω (bits .and .u16 a x),ι ω (bits .and .u16 b y),ι ω (bits .and .u16 c z),ι ω (bits .and .u16 d u)] 48/\ah v ((w+1)) #[ι ω x,ι ω y,ι ω z,ι ω u] 48/\ah v ((w+2)) #[ι ω (bits .and .u16 a x),ι ω (bits .and .u16 b y),ι ω (bits .and .u16 c z),ι ω (bits .and .u16 d u)] 48) ⟨ρB,ρB,ρB⟩ (λ_ kx=>(Ml.trans kx σ0)) ?_;rintro Zt ⟨H14,M14,R14⟩ PQ;replace rR:=R14.r;replace Rr:=θ2 H14.r M14.r;refine qO (v:=φ #[ι ω (bits .and .u16 a x),ι ω (bits .and .u16 b y),ι ω (bits .and .u16 c z),ι ω (bits .and .u16 d u)]) (by simp[results,Tryz.results74,go_sem,rR.1]) rfl ⟨rfl,PQ.toBelow⟩
structure RL where
 (m w:K4)
 (c:Int)
def qc (r:RL):List ϗ:=[ι ω r.m.a,ι ω r.m.b,ι ω r.m.c,ι ω r.m.d,ι ω r.w.a,ι ω r.w.b,ι ω r.w.c,ι ω r.w.d,ι ε r.c]
theorem Co:(Ψ.info? 88).map (λi=>(i.zero,i.size,i.bytes))=some (some (φ #[eK,eK,eK,eK,eK,eK,eK,eK,Kz]),9,24):=by kernel_rfl
def jo (r:RL)(h:K4):Bool:=decide (jY h r.m=r.w)
theorem IG (k j:K4)(v:ϖ):(binOp .eql 48 (kv k) (kv j)).run Ψ v=.ok (β (decide (k=j))) v:=by rw[run_eql_struct,yg 9998 k j];simp[Result.andThen]
theorem Dh (k j:K4)(v:ϖ):(binOp .neq 48 (kv k) (kv j)).run Ψ v=.ok (β (decide (k≠j))) v:=by rw[run_neq_struct,yg 9998 k j];simp[Result.andThen]
def jm:K4:=⟨65535,65535,65535,65535⟩
theorem BK (w:ϖ):Calls Ψ 75 #[] w λe w'=>e=ϰ (kv jm)/\Below w w w':=by go_in;go_wp2_with fail;refine Jb (Ks (λ_=>False) w) (λv=>ah v w #[ι ω 65535,ι ω 65535,ι ω 65535,ι ω 65535] 48) ρB ?_;rintro v1 R1 I';replace rR:=R1.r;exact qO (v:=φ #[ι ω 65535,ι ω 65535,ι ω 65535,ι ω 65535]) (by simp[results,Tryz.results75,go_sem,rR.1]) rfl ⟨rfl,I'.toBelow⟩
theorem wL (r:RL)(h:K4)(w:ϖ):Calls Ψ 125 #[φ #[ι ω r.m.a,ι ω r.m.b,ι ω r.m.c,ι ω r.m.d,ι ω r.w.a,ι ω r.w.b,ι ω r.w.c,ι ω r.w.d,ι ε r.c],kv h] w λe w'=>e=ϰ (β (jo r h))/\Below w w w':=by
 obtain⟨⟨a,b,c,d⟩,⟨x,y,z,u⟩,cl⟩:=r;have he:=IG (jY h ⟨a,b,c,d⟩) ⟨x,y,z,u⟩;have hu:=λv=>vn h ⟨a,b,c,d⟩ v;obtain⟨q,hq⟩:=Nq (jY h ⟨a,b,c,d⟩);rw[hq] at he hu;show Calls _ _ _ _ λe w'=>e=ϰ (β (decide (jY h ⟨a,b,c,d⟩=⟨x,y,z,u⟩)))/\_;rw[hq];clear hq;obtain⟨s,hs⟩:=Nq (decide (q=⟨x,y,z,u⟩));rw[hs] at he ⊢;clear hs;obtain⟨h0,h1,h2,h3⟩:=h;obtain⟨q0,q1,q2,q3⟩:=q;simp only[kv] at he hu ⊢;go_in;go_upto_region 1 with (fail);refine Jw (Ks (λ_=>False) w) (λv=>ah v w #[ι ω a,ι ω b,ι ω c,ι ω d,ι ω x,ι ω y,ι ω z,ι ω u,ι ε cl] 88/\ah v ((w+1)) #[ι ω h0,ι ω h1,ι ω h2,ι ω h3] 48) ⟨ρB,ρB⟩ ?_;rintro v1 ⟨R1,H1⟩ I';have Rr:=θ2 R1.r H1.r;refine bR (θ3 I' R1 H1) ?_;clear Rr;rintro v2 ⟨J',R2,H2⟩ Rr;have qR:=af R2;have qH:=af H2;refine Wq ?_
 repeat (go_big_quiet_step ((first
   | (go_at_call 74;(with_reducible exact cD (hu _))))))
 refine bE (θ3 R2 H2 J') ?_;clear Rr;rintro v3 ⟨R3,H3,Kk⟩ Rr;clear qR qH R2 H2;go_wp2;go_ret;exact⟨rfl,(Kk.step0 ρE).toBelow⟩
theorem bz.of_eq {w v:ϖ} {M:Nat} {L:List FW} (h:bz w M L)(e:v.heap[M]?=w.heap[M]?):bz v M L:=by obtain⟨es,ck,h1,h2⟩:=h;exact⟨es,ck,by rw[e];exact h1,h2⟩
theorem bz.size {w:ϖ} {M:Nat} {L:List FW} (h:bz w M L):M<w:=by obtain⟨es,ck,h1,_⟩:=h;exact(Array.getElem?_eq_some_iff.1 h1).1
theorem bz.below {w v:ϖ} {M:Nat} {L:List FW} (h:bz w M L)(k:Below w w v):bz v M L:=h.of_eq (k.block M h.size)
instance {w M L}:Mv (bz w M L) w (λv'=>bz v' M L):=⟨λk h=>bz.below h k⟩
theorem bz.ko {w v:ϖ} {F:Nat->Prop} {M:Nat} {L:List FW} (h:bz w M L)(k:KO F w v)(hF:¬F M):bz v M L:=h.of_eq (k.block M h.size hF)
theorem nN {k:K4}:∀{L:List FW} {i:Nat} {p:Nat × FW},bM L k i=some p->p.2 ∈ L
 | [],i,p,h=>by cases h
 | f::r,i,p,h=>by
  unfold bM at h;split at h
  ·cases h;simp
  ·exact qb _ (nN h)
theorem Cp (x:RL):(qc x).length=9:=rfl
def bF (w:ϖ)(B:Nat)(rs:List RL)(ex:List FW)(ms:List Int)(fp:Nat->Prop):Prop:=∃(base:Nat)(M:Nat)(rv mv:ϗ),ah w B #[rv,.map (some M),mv] 164/\ae 88 9 qc w base rv rs/\bz w M ex/\HI w base mv ms/\(rs.length<=1000/\ms.length<=1000)/\(∀f ∈ ex,0<=f.p/\f.p.toNat<rs.length)/\(∀i ∈ ms,0<=i/\i.toNat<rs.length)/\(∀x,x=B\/x=M\/some x=rv.ownBlock\/some x=mv.ownBlock->fp x)/\(∀x,fp x->x<w.heap.size)
theorem bF.ko {w v:ϖ} {F fp:Nat->Prop} {B:Nat} {rs:List RL} {ex:List FW} {ms:List Int} (h:bF w B rs ex ms fp)(k:KO F w v)(hF:∀x,fp x->¬F x):bF v B rs ex ms fp:=by obtain⟨base,M,rv,mv,h1,h2,h3,h4,h5,h6,h7,h8,h9⟩:=h;exact⟨base,M,rv,mv,h1.ko k (hF _ (h8 _ (.inl rfl))),h2.ko k (λx _ hx=>hF _ (h8 _ (.inr (.inr (.inl hx))))),h3.ko k (hF _ (h8 _ (.inr (.inl rfl)))),ae.ko h4 k (λx _ hx=>hF _ (h8 _ (.inr (.inr (.inr hx))))),h5,h6,h7,h8,λx hx=>qB (h9 x hx) k.size⟩
theorem bF.below {w v:ϖ} {fp:Nat->Prop} {B:Nat} {rs:List RL} {ex:List FW} {ms:List Int} (h:bF w B rs ex ms fp)(k:Below w w v):bF v B rs ex ms fp:=h.ko (KO.of_below (F:=λ_=>False) k) (λ_ _ f=>f)
instance {w B rs ex ms fp}:Mv (bF w B rs ex ms fp) w (λv'=>bF v' B rs ex ms fp):=⟨λk h=>bF.below h k⟩
def CQ (f:Option (Nat × FW)):Int:=match f with|some p=>p.2.p|none=>0
theorem oz {w:ϖ} {M:Nat} {L:List FW} (h:bz w M L)(k:K4):(Instr.lookup 162 (.map (some M)) (kv k) true).run Ψ w=.ok (χ #[ι ε (CQ (bM L k 0)),β (bM L k 0).isSome]) w:=by rw[sw h k];cases bM L k 0<;>rfl
def tL (rs:List RL)(A:Option Int)(h:K4):List Int->Option Int
 | []=>A.bind λi=>(rs[i.toNat]?).map (·.c)
 | i::r=>if (match A with | some j=>decide (j<i) | none=>false)=true then A.bind λi=>(rs[i.toNat]?).map (·.c) else match rs[i.toNat]? with
  | some x=>if jo x h then some x.c else tL rs A h r
  | none=>none
theorem Ec {rs:List RL} {A:Option Int} {h:K4} {i:Nat} {r:List Int} {x:RL} {th:Bool} {at_:Int} (hA:A=if th then some at_ else none)(hx:rs[i]?=some x):tL rs A h ((i:Int)::r)=if (th && decide (at_<i))=true then A.bind (λi=>(rs[i.toNat]?).map (·.c)) else if jo x h then some x.c else tL rs A h r:=by
 subst hA;cases th with
 | false=>simp[tL,hx]
 | true=>simp[tL,hx]
theorem EC (B0:Nat)(rs:List RL)(ex:List FW)(ms:List Int)(fp:Nat->Prop)(h:K4)(w:ϖ)(H:bF w B0 rs ex ms fp):
  CB 85 #[B0,kv h] w (χ #[ι ε ((tL rs ((bM ex h 0).map λp=>p.2.p) h ms).getD 0),ι ε (if (tL rs ((bM ex h 0).map λp=>p.2.p) h ms).isSome then 0 else 31)]):=by
 obtain⟨h0,h1,h2,h3⟩:=h;obtain⟨base,MM,rv,mv,T,HR,E,S,KC,SD,VS,-,-⟩:=H;have R:=HR.rd Cp;obtain⟨ra,rcap,rfl,-⟩:=R.slice;obtain⟨ma,Up,rfl⟩:=ae.slice S;obtain⟨rn,Uf⟩:=Nq rs.length;obtain⟨mn,Qc⟩:=Nq ms.length;rw[Uf] at T R KC SD VS;rw[Qc] at T S KC;clear HR;obtain⟨f0,hf0⟩:=Nq (bM ex ⟨h0,h1,h2,h3⟩ 0);obtain⟨at_,MF⟩:=Nq (CQ f0);obtain⟨th,Tz⟩:=Nq f0.isSome;have lk0:∀{v:ϖ},bz v MM ex->(Instr.lookup 162 (.map (some MM)) (φ #[ι ω h0,ι ω h1,ι ω h2,ι ω h3]) true).run Ψ v=.ok (χ #[ι ε at_,β th]) v:=λhv=>by rw[<- MF,<- Tz,<- hf0];exact oz hv ⟨h0,h1,h2,h3⟩
 obtain⟨A,hA⟩:=Nq (f0.map (λp=>p.2.p));have VG:A=if th then some at_ else none:=by rw[<- hA,<- Tz,<- MF];cases f0<;>rfl
 have Tm:th=true->0<=at_/\at_.toNat<rn:=λh=>by rw[<- Tz] at h;rw[<- MF];cases hq:f0 with|none=>rw[hq] at h;cases h|some p=>exact SD p.2 (nN (hf0.trans hq))
 rw[hf0,hA];obtain⟨WT,NV⟩:=Nq (tL rs A ⟨h0,h1,h2,h3⟩ ms);rw[NV];obtain⟨rc,hrc⟩:=Nq (WT.getD 0);obtain⟨rn2,XP⟩:=Nq (if WT.isSome=true then (0:Int) else 31);rw[hrc,XP];have Qd:WT=none->rc=0/\rn2=31:=λe=>by rw[<- hrc,<- XP,e];exact⟨rfl,rfl⟩
 have hso:∀c,WT=some c->rc=c/\rn2=0:=λc e=>by rw[<- hrc,<- XP,e];exact⟨rfl,rfl⟩
 clear hrc XP;clear hA MF Tz hf0 SD f0;have zT:=T.size;have cT:=T.cell;have fT:=T.frozen;have zT:=T.size;have Ot:=(lk0 E);unfold CB;go_in;go_upto_region 3 with (fail);refine Jw (θ5 (Ks (λ_=>False) w) T R E S) (λv=>ah v w #[ι ω h0,ι ω h1,ι ω h2,ι ω h3] 48) ρB ?_;rintro v1 H1 ⟨I',T1,R1,E1,S1⟩;replace cT:=T1.cell;replace fT:=T1.frozen;replace zT:=T1.size;have Rr:=H1.r;replace Ot:=(lk0 E1);refine Zw (θ6 I' T1 R1 E1 S1 H1) ?_;rintro v2 ⟨J',T2,R2,E2,S2,H2⟩;replace cT:=T2.cell;replace fT:=T2.frozen;replace zT:=T2.size;replace Rr:=H2.r;replace Ot:=(lk0 E2);have qT:=af T2;have RG:=λd os=>(lk0 (E2.below (qW _ d os)));have qH:=af H2;refine Wq ?_;refine tf ?_;refine Zq (θ6 T2 R2 E2 S2 H2 J') ?_;rintro v3 ⟨T3,R3,E3,S3,H3,Kk⟩;replace cT:=T3.cell;replace fT:=T3.frozen;replace zT:=T3.size;replace Rr:=H3.r;replace Ot:=(lk0 E3);clear qT RG qH T2 R2 E2 S2 H2;have z3:=Kk.size;change Hid _ at Qc Uf;go_wp2_with fail;go_loopw [26] (λk wr=>∃(a b:List Int),k=ι ε (a.length:Nat)/\ms=a++b/\WT=tL rs A ⟨h0,h1,h2,h3⟩ b/\ah wr B0 #[ζ ra rn rcap,.map (some MM),ζ ma mn Up] 164/\aK 9 qc wr w (ζ ra rn rcap) rs/\HI wr base (ζ ma mn Up) ms/\ah wr w #[ι ω h0,ι ω h1,ι ω h2,ι ω h3] 48/\KO (λ_=>False) w wr) (λk _=>mn - (intOf k).toNat);case atStart=>exact⟨[],ms,rfl,rfl,NV.symm,T3,R3,S3,H3,Kk⟩
 case round=>
  obtain⟨a,b,rfl,Kq,hfd,T0,R0,S0,H0,Kj⟩:=hrel;have zw:=Kj.size;clear T3 R3 E3 S3 H3 Kk cT fT zT Ot;have Kv:a.length+b.length=mn:=by rw[<- Qc.out,Kq,qL]
  obtain⟨q,hq⟩:=Nq a.length;rw[hq] at Kv ⊢;have cT:=T0.cell;have fT:=T0.frozen;have zT:=T0.size;have Ss:=H0.r;cases b with
  | nil=>
   have Ku:¬(q:Int)<(mn:Int):=ρo;have hd:=qF Ku;change Hid _ at Kv hq Kq hfd;rcases th with _|_
   ·have hm:WT=none:=by rw[hfd.out,VG];rfl
    obtain⟨rfl,rfl⟩:=Qd hm;go_wp2_with fail;refine qO (v:=χ #[Kz,ι ε 31]) τJ rfl ⟨rfl,(Kj.step0 ρE).toBelow⟩
   ·obtain⟨g1,g2⟩:=Tm rfl;obtain⟨j,rfl⟩:∃j:Nat,at_=j:=⟨at_.toNat,by omega⟩;simp only[Int.toNat_natCast] at g2;obtain⟨x,hx⟩:∃x,rs[j]?=some x:=⟨_,List.getElem?_eq_getElem (by rw[Uf.out];exact g2)⟩;have hm:WT=some x.c:=by rw[hfd.out,VG];simp[tL,hx]
    obtain⟨rfl,rfl⟩:=hso _ hm;obtain⟨g,off,rfl⟩:=R0.some (λe=>by rw[e] at hx;simp at hx);have cx:=R0.cell hx 8 (u:=ι ε x.c) rfl;have gj:(j:Int)<rn:=ρa;have jn:(j:Int)<=1000:=ρa;go_wp2_with fail;refine qO (v:=χ #[ι ε x.c,Kz]) τJ rfl ⟨rfl,(Kj.step0 ρE).toBelow⟩
  | cons i r=>
   have Ku:(q:Int)<(mn:Int):=ρo;have hd:=qT Ku;have NI:ms[q]?=some i:=ρI;have KI:ms≠[]:=ρS;obtain⟨i0,i1⟩:=VS i ρS;obtain⟨i,rfl⟩:∃j:Nat,i=j:=⟨i.toNat,by omega⟩;simp only[Int.toNat_natCast] at i1;obtain⟨x,hx⟩:∃x,rs[i]?=some x:=⟨_,List.getElem?_eq_getElem (by rw[Uf.out];exact i1)⟩;obtain⟨Vd,OA,g0,e0,KY,e1,_⟩:=ae.at S0 (λ_=>rfl);have e1:=e1 KI;have e2:=(qV e0).1;have e3:=(qV e0).2.2;clear e0;subst e2;subst e3;subst e1;obtain⟨cx,gx,bx⟩:=HI.cell S0 q i NI;have Nu:q<mn:=ρa;have in_:(i:Int)<rn:=ρa;have in1:(i:Int)<=1000:=ρa;obtain⟨g,off,rfl⟩:=R0.some (λe=>by rw[e] at hx;simp at hx);have Qu:WT=if (th && decide (at_<i))=true then A.bind (λi=>(rs[i.toNat]?).map (·.c)) else if jo x ⟨h0,h1,h2,h3⟩ then some x.c else tL rs A ⟨h0,h1,h2,h3⟩ r:=by rw[hfd];exact Ec VG hx
   change Hid _ at Kv hq Kq hfd KY;by_cases hc:(th && decide (at_<i))=true
   ·rw[qP hc] at Qu;simp only[Bool.and_eq_true,decide_eq_true_eq] at hc;obtain⟨Tz,Mp⟩:=hc;subst Tz;have Np:decide (at_<(i:Int))=true:=qT Mp;obtain⟨g1,g2⟩:=Tm rfl;obtain⟨j,rfl⟩:∃j:Nat,at_=j:=⟨at_.toNat,by omega⟩;simp only[Int.toNat_natCast] at g2;obtain⟨y,hy⟩:∃y,rs[j]?=some y:=⟨_,List.getElem?_eq_getElem (by rw[Uf.out];exact g2)⟩;have hm:WT=some y.c:=by rw[Qu,VG];simp[hy]
    obtain⟨rfl,rfl⟩:=hso _ hm;have cy:=R0.cell hy 8 (u:=ι ε y.c) rfl;have gj:(j:Int)<rn:=ρa;have jn:(j:Int)<=1000:=ρa;change Hid _ at hm Qu;go_wp2_with fail;refine qO (v:=χ #[ι ε y.c,Kz]) τJ rfl ⟨rfl,(Kj.step0 ρE).toBelow⟩
   ·rw[qI hc] at Qu;obtain⟨s,hs⟩:=Nq (jo x ⟨h0,h1,h2,h3⟩);rw[hs] at Qu;have hth2:∀Q:Prop,(th=false->Q)->(th=true->decide (at_<(i:Int))=false->Q)->Q:=λQ f g=>by cases th with|false=>exact f rfl|true=>exact g rfl (by simpa using hc)
    refine hth2 _ (λTz=>?_) (λTz Np=>?_)
    all_goals
     subst Tz;replace Qu:=ag Qu;have OV:=λv=>wL x ⟨h0,h1,h2,h3⟩ v;rw[hs] at OV;simp only[kv] at OV;go_upto_region 8 with (fail);refine Zw (θ5 Kj T0 R0 S0 H0) ?_;rintro MN ⟨Ls,T11,OL,Xo,Vm⟩;replace cT:=T11.cell;replace fT:=T11.frozen;replace zT:=T11.size;clear Ss;replace Rr:=Vm.r;replace lS0:=(HI.cell Xo q i NI).1;have qT:=af T11;have qS0:=λd os=>(HI.cell (Xo.below (qW _ d os)) q i NI).1;have qH:=af Vm;refine Wq ?_
     repeat (first
      | (refine rN 88 (.tmp 41) g (off+i*9) (qc x) _ rfl rfl ρs (λw' hb=>aK.rng (aK.below OL hb) hx) Tryz.underlying88 rfl ρi ?_;simp only[qc];(try simp only[Act.put,List.setIfInBounds_toArray,List.set_cons_succ,List.set_cons_zero]))
      | (go_big_quiet_step ((first
       | (go_at_call 125;(with_reducible exact cD (OV _)))))))
     refine Zq (θ5 T11 OL Xo Vm Ls) ?_;rintro OY ⟨T12,Sq,S12,H12,Le⟩;replace cT:=T12.cell;replace fT:=T12.frozen;replace zT:=T12.size;replace Rr:=H12.r;replace lS0:=(HI.cell S12 q i NI).1;clear qT qS0 qH T11 OL Xo Vm;have z12:=Le.size;rcases s with _|_
     ·go_wp2;go_roundw;case rel=>exact⟨a++[(i:Int)],r,by rw[qL,hq.out];go_num,by rw[Kq.out];simp,by rw[Qu.out];rfl,T12.below ρE T12.size,Sq.below ρE,ae.below S12 ρE,H12.below ρE H12.size,Le.step0 ρE⟩
      case measure=>exact ξb
     ·have hm:WT=some x.c:=by rw[Qu.out];rfl
      obtain⟨rfl,rfl⟩:=hso _ hm;have cy:=Sq.cell hx 8 (u:=ι ε x.c) rfl;replace hm:=ag hm;go_wp2_with fail;refine qO (v:=χ #[ι ε x.c,Kz]) τJ rfl ⟨rfl,(Le.step0 ρE).toBelow⟩
theorem BJ (v:ϗ)(L:List RL)(B:Nat)(w:ϖ)(G:aK 9 qc w B v L)(hL:L.length<=1000):Calls Ψ 73 #[v] w λe w'=>∃v',e=ϰ v'/\ae 88 9 qc w' w v' L/\Below w w w':=by
 have G0:=G;obtain⟨oa,oc,rfl,-⟩:=G0.slice;cases oa with
 | none=>
  have hL:L=[]:=by obtain⟨_,_,e,_,_,h,_⟩:=G;exact(h (qV e).1.symm).2
  subst hL;have hc:oc=0:=by obtain⟨_,_,e,_,_,h,_⟩:=G;rw[(qV e).2.2];exact(h (qV e).1.symm).1
  subst hc;have hq:=λ(w:ϖ) (a:Option Addr) n c=>Lib.run_eql_slice_nil (P:=Ψ) w 78 88 a n c 0 0 Tryz.underlying78;go_in;go_wp2;go_ret;exact⟨_,rfl,ae.nil _ _,ρE⟩
 | some ad=>obtain⟨n,hn⟩:=Nq L.length;have G1:=G;rw[hn] at G1 ⊢;have hq:=λ(w:ϖ) (a:Option Addr) n c=>Lib.run_eql_slice_nil (P:=Ψ) w 78 88 a n c 0 0 Tryz.underlying78;go_in;go_upto_region 3 with (fail);go_wp2_with (refine kN Tryz.underlying78 Co rfl (λ_=>rfl) (λ_ _ h=>by simp[qc] at h;rcases h with rfl | rfl | rfl | rfl | rfl | rfl | rfl | rfl | rfl<;>rfl) ρf ρf rfl (.tmp 5) (.tmp 6) rfl w B _ _ [] L ρs ρs (ae.zero ρB (qR _)) (aK.below G1 ρE) ρF ρp ?_;intro v' w' H' kx);go_ret;refine⟨_,rfl,H',?_⟩;have b1:Below w w w':=kx.below (B:=w.heap.size) ρp (λx hx e=>by simp[Value.ownBlock] at e;omega) |> λh=>(Below.trans ρE h);exact b1.trans ρE
def Gy (l:List RL):Prop:=l.length<=32/\∀r ∈ l,1<=r.c/\r.c<=65536/\jY r.w r.m=r.w
def eQ:List RL->Nat->List FW->List Int->List FW × List Int
 | [],_,ex,ms=>(ex,ms)
 | r::l,i,ex,ms=>if r.m≠jm then eQ l (i+1) ex (ms++[(i:Int)]) else if (bM ex r.w 0).isSome=true then eQ l (i+1) ex ms else eQ l (i+1) (ex++[⟨r.w,i⟩]) ms
theorem bz.made (w:ϖ):bz (w.alloc (.map #[] 0)) w []:=⟨#[],0,(MapKept.heap_alloc w _).1,rfl⟩
theorem bz.alloc {w:ϖ} {M:Nat} {L:List FW} (h:bz w M L)(o:Obj):bz (w.alloc o) M L:=h.of_eq ((MapKept.heap_alloc w o).2 M h.size)
theorem sA {w w':ϖ} {M:Nat} {L:List FW} (h:bz w M L)(k:K4) {f:ϗ} (hr:(Instr.mapUpdate 162 (.map (some M)) (kv k) f).run Ψ w=.ok () w')(hk:∀b,b≠M->w'.heap[b]?=w.heap[b]?)(hb:w'.heap.size=w)(h2:Below M w w'):KO (λx=>x=M) w w':=⟨h2.os,h2.tape,h2.output,by omega,λb _ hbM=>hk b hbM⟩
theorem Dk (v:ϗ)(l:List RL)(B:Nat)(w:ϖ)(G:aK 9 qc w B v l)(hl:l.length<=1000):Calls Ψ 50 #[v] w λe w'=>∃u n,e=ϰ (χ #[u,ι ε n])/\Below w w w'/\((n≠0/\¬Gy l)\/(n=0/\∃B2 fp,u=ψ (some ⟨B2,0,none⟩)/\(∀x,fp x->w.heap.size<=x)/\bF w' B2 l (eQ l 0 [] []).1 (eQ l 0 [] []).2 fp)):=by
 obtain⟨oa,oc,rfl,-⟩:=G.slice;obtain⟨n,hn⟩:=Nq l.length;have G1:=G;rw[hn] at G1 hl ⊢;go_in;go_upto_region 1 with (fail);by_cases h32:32<n
 ·have d0:=dt ((32:Int)<(n:Int));go_wp2;refine qO (v:=χ #[Kp,ι ε 2]) τi rfl ⟨_,2,rfl,ρE,.inl ⟨by omega,λh=>by unfold Gy at h;omega⟩⟩
 have d0:=df ((32:Int)<(n:Int));go_wp2_with fail;refine(BJ _ l B _ (aK.below G1 ρE) ρa).mono ?_;rintro e v2 ⟨cv,rfl,C2,k2⟩;have b2:Below w w v2:=Below.trans ρE (k2.mono (by first|exact qR _|(simp;done)|(simp;omega)));have z2:=b2.size;replace C2:=ae.base_le C2 (b':=w.heap.size) (by first|exact qR _|(simp;done)|(simp;omega));obtain⟨ca,cc,rfl⟩:=ae.slice C2;rw[hn];rw[hn] at C2;have zB:B<=w:=by obtain⟨_,_,_,_,h3,_⟩:=G1;exact h3
 have G2:=aK.belowK G1 b2 zB;clear k2;have Yl:∀x,some x=(Value.slice ca n cc).ownBlock->x<v2.heap.size:=λx hx=>(ae.own_ge C2 x hx.symm).2;have UV:=@run_makeMap Ψ;replace hn:=ag hn;have J':KO (λ_=>False) w v2:=KO.of_below b2;go_wp2_with fail;refine Jw (θ3 J' C2 G2) (λv=>ah v ((v2+1)) #[ζ ca n cc,.map (some v2),Kn] 164/\bz v v2 []) ⟨ρB,(bz.made v2).alloc _⟩ ?_;rintro v3 ⟨T3,E3⟩ ⟨Kk,C3,G3⟩;replace rT:=T3.r;have z3:=Kk.size;have b3:=Kk.toBelow;have z23:v2.heap.size+1<v3:=rT.2.2;clear UV;go_loopw [19] (λk wr=>∃(a b:List RL) (ex:List FW) (ms:List Int) (mv:ϗ),k=ι ε (a.length:Nat)/\l=a++b/\eQ l 0 [] []=eQ b a.length ex ms/\(∀r ∈ a,1<=r.c/\r.c<=65536/\jY r.w r.m=r.w)/\ms.length<=a.length/\(∀f ∈ ex,0<=f.p/\f.p.toNat<a.length)/\(∀i ∈ ms,0<=i/\i.toNat<a.length)/\ae 88 9 qc wr w (ζ ca n cc) l/\aK 9 qc wr B (ζ oa n oc) l/\ah wr (v2+1) #[ζ ca n cc,.map (some v2),mv] 164/\bz wr v2 ex/\HI wr v3 mv ms/\KO (λx=>x=v2.heap.size+1\/x=v2.heap.size) v3 wr) (λk _=>n - (intOf k).toNat);case atStart=>exact⟨[],l,[],[],_,rfl,rfl,rfl,λ_ h=>by simp at h,qR _,λ_ h=>by simp at h,λ_ h=>by simp at h,C3,G3,T3,E3,ae.nil _ _,KO.refl _ _⟩
 case round=>
  obtain⟨a,b,ex,ms,mv,rfl,Kq,Ui,K7,UU,SD,VS,C0,G0,T0,E0,S0,Kj⟩:=hrel;have zw:=Kj.size;clear C3 G3 T3 E3 Kk C2 G2 J';have Kv:a.length+b.length=n:=τb;obtain⟨q,hq⟩:=Nq a.length;rw[hq] at Kv Ui UU SD VS ⊢;obtain⟨ma,Up,rfl⟩:=ae.slice S0;obtain⟨mn,Qc⟩:=Nq ms.length;rw[Qc] at T0 S0 UU;have rT:=T0.r;have zC:∀x,some x=(Value.slice ca n cc).ownBlock->x<v2.heap.size:=Yl;have zB3:B<=w:=zB;cases b with
  | nil=>
   refine η6 ?_;intro Ku hd;have ha:a=l:=ρQ;have Nu:q=n:=by rw[<- hq,ha,hn.out]
   simp only[eQ] at Ui;change Hid _ at Kv hq Kq Ui ha;go_wp2_with fail;refine qO (v:=χ #[ψ (some ⟨v2+1,0,none⟩),Kz]) τi rfl ⟨_,0,rfl,(b3.trans (Kj.below (B:=w.heap.size) ρa τs)).trans ρE,.inr ⟨rfl,?_⟩⟩;refine⟨v2+1,rfl,λx=>x=v2.heap.size+1\/x=v2\/some x=(Value.slice ca n cc).ownBlock\/some x=(Value.slice ma mn Up).ownBlock,?_,?_⟩
   ·rintro x (rfl|rfl|h|h)
    ·omega
    ·omega
    ·exact(ae.own_ge C0 x h.symm).1
    ·have:=(ae.own_ge S0 x h.symm).1;omega
   ·rw[Ui.out];refine bF.below ⟨w,v2,_,_,T0,C0,E0,ae.base_le S0 ρa,⟨by rw[hn.out];omega,by rw[Qc];omega⟩,λf hf=>by rw[hn.out,<- Nu];exact SD f hf,λi hi=>by rw[hn.out,<- Nu];exact VS i hi,λx h=>h,?_⟩ ρE;rintro x (rfl|rfl|h|h)
    ·exact T0.size
    ·exact E0.size
    ·exact(ae.own_ge C0 x h.symm).2
    ·exact(ae.own_ge S0 x h.symm).2
  | cons r rest=>
    obtain⟨⟨k0,k1,k2,k3⟩,⟨j0,j1,j2,j3⟩,cl⟩:=r;refine δH ?_;intro Ku hd;have NI:l[q]?=some ⟨⟨k0,k1,k2,k3⟩,⟨j0,j1,j2,j3⟩,cl⟩:=ρI;have OF:(⟨⟨k0,k1,k2,k3⟩,⟨j0,j1,j2,j3⟩,cl⟩:RL) ∈ l:=ρS;obtain⟨g,off,rfl,hg,RA⟩:=G0.at NI;have Nu:q<n:=ρa;have hu:=λv=>vn ⟨j0,j1,j2,j3⟩ ⟨k0,k1,k2,k3⟩ v;have he:=λv=>Dh (jY ⟨j0,j1,j2,j3⟩ ⟨k0,k1,k2,k3⟩) ⟨j0,j1,j2,j3⟩ v;have hra:jY ⟨j0,j1,j2,j3⟩ ⟨k0,k1,k2,k3⟩=⟨j0,j1,j2,j3⟩↔decide (jY ⟨j0,j1,j2,j3⟩ ⟨k0,k1,k2,k3⟩≠⟨j0,j1,j2,j3⟩)=false:=ρp;obtain⟨z,hz⟩:=Nq (jY ⟨j0,j1,j2,j3⟩ ⟨k0,k1,k2,k3⟩);rw[hz] at hu he hra;obtain⟨s,hs⟩:=Nq (decide (z≠⟨j0,j1,j2,j3⟩));rw[hs] at he hra;have Qd:cl<1\/65536<cl\/s=true->¬Gy l:=λh hr=>by have:=hr.2 _ OF;rcases h with h|h|h;(· have:=this.1;simp only at this;omega);(· have:=this.2.1;simp only at this;omega);(· have h3:jY ⟨j0,j1,j2,j3⟩ ⟨k0,k1,k2,k3⟩=⟨j0,j1,j2,j3⟩:=this.2.2;rw[hz] at h3;rw[hra.1 h3] at h;cases h)
    obtain⟨z0,z1,z2_,z3_⟩:=z;simp only[kv] at hu he;have XV:=λv=>Dh ⟨k0,k1,k2,k3⟩ jm v;obtain⟨s2,K6⟩:=Nq (decide ((⟨k0,k1,k2,k3⟩:K4)≠jm));rw[K6] at XV;simp only[kv,jm] at XV;have hwh:=λv=>BK v;simp only[kv,jm] at hwh;have ll:∀{v:ϖ},bz v v2 ex->(Instr.lookup 162 (.map (some v2)) (φ #[ι ω j0,ι ω j1,ι ω j2,ι ω j3]) true).run Ψ v=.ok (χ #[ι ε (CQ (bM ex ⟨j0,j1,j2,j3⟩ 0)),β (bM ex ⟨j0,j1,j2,j3⟩ 0).isSome]) v:=λhv=>oz hv ⟨j0,j1,j2,j3⟩;obtain⟨at_,MF⟩:=Nq (CQ (bM ex ⟨j0,j1,j2,j3⟩ 0));obtain⟨th,Tz⟩:=Nq ((bM ex ⟨j0,j1,j2,j3⟩ 0).isSome);rw[MF,Tz] at ll;have WO:eQ l 0 [] []=if s2=true then eQ rest (q+1) ex (ms++[(q:Int)]) else if th=true then eQ rest (q+1) ex ms else eQ rest (q+1) (ex++[⟨⟨j0,j1,j2,j3⟩,q⟩]) ms:=by rw[Ui,eQ,<- Tz];simp only[<- K6];by_cases h:(⟨k0,k1,k2,k3⟩:K4)=jm<;>simp[h]
    change Hid _ at Kv hq Kq Ui WO Qd hra hz OF hs K6 Tz MF;go_upto_region 7 with (refine Go.wpList_load_mid rfl 88 _ rfl g (off+q*9) rfl (qc ⟨⟨k0,k1,k2,k3⟩,⟨j0,j1,j2,j3⟩,cl⟩) _ RA Tryz.underlying88 rfl ρi ?_;try simp only[qc]);refine jW (θ6 Kj C0 G0 T0 E0 S0) (λv=>ah v wr #[ι ω k0,ι ω k1,ι ω k2,ι ω k3,ι ω j0,ι ω j1,ι ω j2,ι ω j3,ι ε cl] 88) ρB ?_;rintro v21 X21 ⟨QA,C21,G21,T21,E21,S21⟩ Rr;replace rT:=T21.r;have Ss:=X21.r;replace Ot:=(ll E21);have z21:=QA.size;by_cases c1:cl<1
    ·have d1:=qT c1;refine δy ?_;clear Rr Ss rT Ot;intro RJ NX TH Sl Su Rc Rg Tj Rr rT Ot qT RG qX
     repeat (go_big_quiet_step ((first
       | (go_at_call 74;(with_reducible exact cD (hu _))))))
     refine bE (θ7 TH Sl Su Rc Rg Tj NX) ?_;clear Rr;rintro v23 ⟨C23,G23,Yy,Wt,Xp,WA,QB⟩ Rr;replace rT:=Yy.r;replace Ot:=(ll Wt);clear qT RG qX TH Sl Su Rc Rg Tj;go_wp2_with fail;refine qO (v:=χ #[Kp,Ko]) τi rfl ⟨_,1,rfl,(b3.trans (QB.below (B:=w.heap.size) ρa τs)).trans ρE,.inl ⟨by omega,Qd.out (.inl c1)⟩⟩
    have d1:=qF c1;by_cases c2:65536<cl
    ·have d2:=qT c2;refine δy ?_;clear Rr Ss rT Ot;intro RJ NX TH Sl Su Rc Rg Tj Rr rT Ot qT RG qX
     repeat (go_big_quiet_step ((first
       | (go_at_call 74;(with_reducible exact cD (hu _))))))
     refine bE (θ7 TH Sl Su Rc Rg Tj NX) ?_;clear Rr;rintro v23 ⟨C23,G23,Yy,Wt,Xp,WA,QB⟩ Rr;replace rT:=Yy.r;replace Ot:=(ll Wt);clear qT RG qX TH Sl Su Rc Rg Tj;go_wp2_with fail;refine qO (v:=χ #[Kp,Ko]) τi rfl ⟨_,1,rfl,(b3.trans (QB.below (B:=w.heap.size) ρa τs)).trans ρE,.inl ⟨by omega,Qd.out (.inr (.inl c2))⟩⟩
    have d2:=qF c2;rcases s with _|_
    rotate_left
    ·refine δy ?_;clear Rr Ss rT Ot;intro RJ NX TH Sl Su Rc Rg Tj Rr rT Ot qT RG qX
     repeat (go_big_quiet_step ((first
       | (go_at_call 74;(with_reducible exact cD (hu _))))))
     refine bE (θ7 TH Sl Su Rc Rg Tj NX) ?_;clear Rr;rintro v23 ⟨C23,G23,Yy,Wt,Xp,WA,QB⟩ Rr;replace rT:=Yy.r;replace Ot:=(ll Wt);clear qT RG qX TH Sl Su Rc Rg Tj;go_wp2_with fail;refine qO (v:=χ #[Kp,Ko]) τi rfl ⟨_,1,rfl,(b3.trans (QB.below (B:=w.heap.size) ρa τs)).trans ρE,.inl ⟨by omega,Qd.out (.inr (.inr ρp))⟩⟩
    skip;refine δy ?_;clear Rr Ss rT Ot;intro RJ NX TH Sl Su Rc Rg Tj Rr rT Ot qT RG qX
    repeat (go_big_quiet_step ((first
      | (go_at_call 74;(with_reducible exact cD (hu _))))))
    refine bE (θ7 TH Sl Su Rc Rg Tj NX) ?_;clear Rr;rintro v23 ⟨C23,G23,Yy,Wt,Xp,WA,QB⟩ Rr;replace rT:=Yy.r;replace Ot:=(ll Wt);clear qT RG qX TH Sl Su Rc Rg Tj;go_upto_region 9 with (fail);refine bR (θ7 QB C23 G23 Yy Wt Xp WA) ?_;clear Rr;rintro v24 ⟨k024,C24,G24,T24,E24,ZU,QL⟩ Rr;replace rT:=T24.r;replace Ot:=(ll E24);have qT:=af T24;have RG:=λd os=>(ll (E24.below (qW _ d os)));have qX:=af QL;refine Wq ?_;refine tf ?_;refine bE (θ7 C24 G24 T24 E24 ZU QL k024) ?_;clear Rr;rintro v25 ⟨C25,G25,T25,E25,S25,Tl,VZ⟩ Rr;replace rT:=T25.r;replace Ot:=(ll E25);clear qT RG qX C24 G24 T24 E24 ZU QL;go_upto_region 10 with (fail);refine bR (θ7 VZ C25 G25 T25 E25 S25 Tl) ?_;clear Rr;rintro Zu ⟨XZ,C26,G26,T26,ZD,Yw,Xs⟩ Rr;replace rT:=T26.r;replace Ot:=(ll ZD);have qT:=af T26;have RG:=λd os=>(ll (ZD.below (qW _ d os)));have qX:=af Xs;refine Wq ?_
    repeat (go_big_quiet_step ((first
      | (go_at_call 75;(with_reducible exact cD (hwh _))))))
    refine bE (θ7 C26 G26 T26 ZD Yw Xs XZ) ?_;clear Rr;rintro v27 ⟨C27,G27,T27,E27,Th,Yz,Un⟩ Rr;replace rT:=T27.r;replace Ot:=(ll E27);clear qT RG qX C26 G26 T26 ZD Yw Xs;have z27:=Un.size;have VV:∀r ∈ a++[(⟨⟨k0,k1,k2,k3⟩,⟨j0,j1,j2,j3⟩,cl⟩:RL)],1<=r.c/\r.c<=65536/\jY r.w r.m=r.w:=λr hr=>by
     rcases qM.1 hr with h|h
     ·exact K7 r h
     ·simp only[qS] at h;subst h;exact⟨by simp only;omega,by simp only;omega,(hz.out).trans (hra.out.2 rfl)⟩
    replace VV:=ag VV;rcases s2 with _|_
    rotate_left
    ·have LZ:ms.length<=1000000:=by rw[Qc];omega
     go_wp2_with (refine au Tryz.underlying45 bG rfl (λ_=>rfl) ρC ρf ρf rfl (.tmp 61) (.tmp 63) rfl v3 (ζ ma mn Up) ms (q:Int) v27 #[ι ε (q:Int)] rfl ρs ρs (Th.below ρE) ρB (by rw[Qc];omega) τx ?_;intro o28 v28 UI kx;replace kx:=kx.of_alloc;have C28:=C27.ko kx (λx hx hh h=>ae.notown Th (by have:=zC x hh;omega) h);have G28:=G27.ko kx (λy hy h=>ae.notown Th ρa h);have T28:=T27.ko kx (λh=>ae.ne_blk Th T27 ρf h);have Yt:=E27.ko kx (ae.notown Th ρa);have VA:=Yz.ko kx (λh=>ae.ne_blk Th Yz ρf h);have Uo:KO (λx=>x=v2.heap.size+1\/x=v2) v3 v28:=Un.trans kx (by intro y hy h;exact ax h (ae.notown Th hy));have zk28:=Uo.size;replace rT:=T28.r;replace rX:=VA.r;replace Ot:=(ll Yt);have hml2:(ms++[(q:Int)]).length=mn+1:=(by rw[qL,Qc];rfl);obtain⟨ma2,mcap2,rfl⟩:=ae.slice UI;rw[hml2] at UI;rw[hml2]);go_roundw;case rel=>exact⟨a++[⟨⟨k0,k1,k2,k3⟩,⟨j0,j1,j2,j3⟩,cl⟩],rest,ex,ms++[(q:Int)],ζ ma2 (mn+1) mcap2,by rw[qL,hq.out];go_num,by rw[Kq.out];simp,by rw[WO.out,qL,hq.out];simp,VV.out,by rw[hml2,qL,hq.out];simp;omega,by rw[qL,hq.out];exact λf hf=>by have:=SD f hf;simp;omega,by rw[qL,hq.out];exact(λi hi=>by rcases qM.1 hi with h|h;(· have:=VS i h;simp;omega);(· simp at h;subst h;simp)),ae.ko C28 (ρK:KO (λx=>x=v2.heap.size+1) v28 _) (λx hx hh e=>by have:=zC x hh;(try dsimp only at e);omega),aK.ko G28 (ρK:KO (λx=>x=v2.heap.size+1) v28 _) (λy hy e=>by (try dsimp only at e);omega),ρB,bz.ko Yt (ρK:KO (λx=>x=v2.heap.size+1) v28 _) (by intro e;(try dsimp only at e);omega),ae.ko UI (ρK:KO (λx=>x=v2.heap.size+1) v28 _) τq,Uo.trans (ρK:KO (λx=>x=v2.heap.size+1) v28 _) σv⟩
     case measure=>exact ξb
    rcases th with _|_
    rotate_left
    ·go_wp2;go_roundw;case rel=>exact⟨a++[⟨⟨k0,k1,k2,k3⟩,⟨j0,j1,j2,j3⟩,cl⟩],rest,ex,ms,_,by rw[qL,hq.out];go_num,by rw[Kq.out];simp,by rw[WO.out,qL,hq.out];simp,VV.out,by rw[qL,hq.out];simp;omega,by rw[qL,hq.out];exact λf hf=>by have:=SD f hf;simp;omega,by rw[qL,hq.out];exact λi hi=>by have:=VS i hi;simp;omega,C27.below ρE,G27.below ρE,T27.below ρE T27.size,E27.below ρE,ae.below Th ρE,Un.step0 ρE⟩
     case measure=>exact ξb
    go_upto_region 13 with (fail);refine bR (θ7 Un C27 G27 T27 E27 Th Yz) ?_;clear Rr;rintro v28 ⟨Uo,C28,G28,T28,Yt,UI,VA⟩ Rr;replace rT:=T28.r;replace Ot:=(ll Yt);have qT:=af T28;have RG:=λd os=>(ll (Yt.below (qW _ d os)));have qX:=af VA;refine Ws 7 (gH ?_);refine bE (θ7 C28 G28 T28 Yt UI VA Uo) ?_;clear Rr;rintro v29 ⟨C29,G29,T29,E29,ZV,X29,Wa⟩ Rr;replace rT:=T29.r;replace Ot:=(ll E29);clear qT RG qX C28 G28 T28 Yt UI VA;obtain⟨v31,Ld,E31,kb,zz,kbb⟩:=Ab E29 ⟨j0,j1,j2,j3⟩ ⟨⟨j0,j1,j2,j3⟩,(q:Int)⟩ rfl (by have:=Tz.out;cases hf:bM ex ⟨j0,j1,j2,j3⟩ 0 with|none=>rfl|some p=>rw[hf] at this;cases this);have ky:KO (λx=>x=v2.heap.size) v29 v31:=sA E29 ⟨j0,j1,j2,j3⟩ Ld kb zz kbb;simp only[kv,fv] at Ld;go_wp2;go_roundw;case rel=>exact⟨a++[⟨⟨k0,k1,k2,k3⟩,⟨j0,j1,j2,j3⟩,cl⟩],rest,ex++[⟨⟨j0,j1,j2,j3⟩,(q:Int)⟩],ms,ζ ma mn Up,by rw[qL,hq.out];go_num,by rw[Kq.out];simp,by rw[WO.out,qL,hq.out];simp,VV.out,by rw[qL,hq.out];simp;omega,by rw[qL,hq.out];exact(λf hf=>by rcases qM.1 hf with h|h;(· have:=SD f h;simp;omega);(· simp at h;subst h;simp)),by rw[qL,hq.out];exact λi hi=>by have:=VS i hi;simp;omega,(ae.ko C29 ky (λx hx hh e=>by have:=zC x hh;(try dsimp only at e);omega)).below ρE,(aK.ko G29 ky (λy hy e=>by (try dsimp only at e);omega)).below ρE,T29.ko ky (by intro e;(try dsimp only at e);omega),E31.below ρE,ae.below (ae.ko ZV ky τq) ρE,(Wa.trans ky σv).step0 ρE⟩
    case measure=>exact ξb
end Go.Proofs.YtfdlemkplejdnaaGreat
