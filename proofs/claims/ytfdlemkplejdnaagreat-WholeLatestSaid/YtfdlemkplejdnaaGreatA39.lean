/- WholeLatest, part 39. Conditions: none. -/
import Derived.Test.YtfdlemkplejdnaaGreatA37
namespace Go.Proofs.YtfdlemkplejdnaaGreat
open Go.RowKit Go.Sort
open Value renaming int->ι,pointer->ψ,slice->ζ,tuple->χ,agg->φ,map->μ,bool->β
open IntKind renaming u64->υ,i64->ε,u16->ω
open Ending renaming returned->ϰ
open Go.Proofs.Tryz renaming prog->Ψ,underlying3->Θ,underlying147->Δ,underlying152->Γ,underlying202->Φ,underlying39->Ξ,underlying207->Ω
open Go renaming World->ϖ,Value->ϗ
set_option linter.unusedVariables false
set_option linter.unusedSimpArgs false
set_option maxHeartbeats 8000000
set_option maxRecDepth 100000
theorem ae.ne_hold {α β:Type} {e e':TypeId} {n n':Nat} {enc:α->List ϗ} {enc':β->List ϗ} {w:ϖ} {b b':Nat} {v v':ϗ} {l:List α} {l':List β} (h:ae e n enc w b v l)(h':ae e' n' enc' w b' v' l')(KI:e≠e')(x:Nat)(hx:some x=v.ownBlock):some x≠v'.ownBlock:=by
 intro q;rcases h.2 with ⟨hv,_⟩|⟨g,Kt,cur,hv,_,hh,_⟩
 ·rw[hv] at hx;cases hx
 ·rcases h'.2 with ⟨hv',_⟩|⟨g',PF,cur',hv',_,hh',_⟩
  ·rw[hv'] at q;cases q
  ·rw[hv] at hx;rw[hv'] at q;cases hx;cases q
   rw[hh] at hh';cases hh'
   exact KI rfl
abbrev Kd (x:Int × Int × Int):List ϗ:=[ι ε x.1,ι ε x.2.1,ι ε x.2.2]
abbrev CX (w:ϖ)(base:Nat)(v:ϗ)(l:List (Int × Int × Int)):Prop:=ae 93 3 Kd w base v l
theorem eS.len {T Lm:Int} {L2:List CD} {Pn:Int->Prop} (K7:∀y0,nj T Lm L2 Pn y0->y0.Ok) {l:List OI} {y:YS} (h:eS T Lm (nj T Lm L2 Pn) l y):y.ev.length<=2*l.length:=by
 cases l with
 | nil=>have h:y=_:=h;rw[h];simp
 | cons x l=>
  obtain⟨y0,h1,h2⟩:=h;have h3:(y0.ev.length:Int)+y0.s.pks<=0:=by rcases h1 with ⟨n,_,_,rfl⟩|⟨_,rfl⟩<;>simp[pD]
  have:=h2.len (K7 y0 h1) h3;have:=SS.pks_nonneg y.s;simp only[mD];omega
theorem BS:(Ψ.info? 93).map (λi=>(i.zero,i.size,i.bytes))=some (some (φ #[Kz,Kz,Kz]),3,24):=by kernel_rfl
theorem DB (T Lm:Int)(hT:1<=T/\T<=65536)(hL:1<=Lm/\Lm<=16384)(x0:OI)(r:List OI)(v:ϗ)(B:Nat)(w:ϖ)(G:iw w B v (x0::r))(KC:(x0::r).length<=1000)(Rn:List OI->SA->YS->Prop)(hR0:∀z,Rn [] z ⟨f7 T Lm [],0,0,[]⟩)(hRl:∀dn z y,Rn dn z y->y.ev.length<=2*dn.length)
  (hDo:∀(dn rest:List OI) (x:OI),x0::r=dn++x::rest->∀(p:Pt) (z:SA) (y:YS) (w1:ϖ),aE p w1 z dn.length (2*dn.length) y->Rn dn z y->(∀x,p x≠6)->∀cs:List ϗ,jp w B x cs->jp w1 B x cs->(∀x,x<w.heap.size->p x=0)->Below w w w1->Calls Ψ 30 #[pt z.Y,φ cs.toArray] w1 λe w'=>∃a b c v z' p' y' l',e=ϰ (χ #[φ #[ι ε a,ι ε b,ι ε c],v])/\z'.Y=z.Y/\Rn (dn++[x]) z' y'/\(∀x,x<w1.heap.size->p' x=p x)/\aE p' w' z' (dn.length+1) (2*dn.length+2) y'/\cG w' w1 v l'/\(∀x,some x=v.ownBlock->p' x=0)/\(∀x,p' x≠6)/\y'.ev=y.ev++l'/\KO (λx=>p x≠0) w1 w'):Calls Ψ 9 #[φ #[ι ε T,ι ε Lm,v]] w λe w'=>∃rs ev y,e=ϰ (χ #[φ #[rs,ev],Kz])/\(∃z,Rn (x0::r) z y)/\cG w' w ev y.ev/\(∃ra rn rc,rs=ζ ra rn rc)/\Below w w w':=by
 have G0:=G;obtain⟨oa,oc,rfl,UU,hB,RV⟩:=G;obtain⟨n,hn⟩:=Nq ((x0::r).length);rw[hn] at KC UU ⊢;go_in;go_wp2_with fail;refine av w (λv=>Below w w v) (λv=>Below w w v/\v.heap.size=w+2/\ah v w #[ι ε T,ι ε Lm,ζ oa n oc] 26/\ah v (w+1) #[Kn,Kn] 35) ρE (λkx=>⟨kx,by first|rfl|(simp;done),ρB,ρB⟩) ?_;rintro v1 ⟨k1,z1,X1,R1⟩;replace z1:=ag z1;refine(Jy T Lm v1 hT hL).mono ?_;rintro e v2 ⟨z,p,rfl,H2,plow,p6,k2⟩;obtain⟨X2,R2⟩:=Mw k2 (θ2 X1 R1);have J':Below w w v2:=k1.trans (k2.mono τl);have ZA:=k2.size;have d1:=df (1000<(n:Int));have Rr:=X2.r;have zR:=R2.size;clear X1 R1 k1 k2;go_upto_region 8 with (fail);refine aV v2 (λv=>Below v2 v2 v) (λv=>Below v2 v2 v/\ah v v2 #[Kn,Kn] 35) ρE (λkx=>⟨kx,ρB⟩) ?_;rintro v3 ⟨k3,Z3⟩;obtain⟨OB,hOB⟩:=Nq v2.heap.size;obtain⟨X3,R3⟩:=Mw k3 (θ2 X2 R2);have H3:=(H2.more v2 0 (qR _)).below k3;have Kk:Below w w v3:=J'.trans (k3.mono ρa);obtain⟨p1,Lz⟩:=Nq (p.more v2 0);rw[Lz] at H3;have Zp:∀x,x<v1.heap.size->p1 x=0:=λx hx=>by rw[<- Lz,Pt.more_lt ρa];exact plow x hx
 have pOB1:p1 v2.heap.size=0:=by rw[<- Lz];exact Pt.more_ge (qR _)
 have p61:∀x,p1 x≠6:=λx=>by rw[<- Lz];unfold Pt.more;split;exact p6 x;omega
 have gOB:w+2<=OB:=τl;rw[hOB] at Z3 pOB1 ⊢;clear Lz zR X2 R2 H2 J' k3 hOB plow p6;go_loopw [31] (λk wr=>∃(dn rest:List OI) (z':SA) (p':Pt) (y:YS) (rs ev:ϗ) (rl:List (Int × Int × Int)),k=ι ε (dn.length:Nat)/\x0::r=dn++rest/\z'.Y=z.Y/\aE p' wr z' dn.length (2*dn.length) y/\Rn dn z' y/\CX wr w rs rl/\rl.length=dn.length/\cG wr w ev y.ev/\ah wr OB #[rs,ev] 35/\p' OB=0/\(∀x,some x=rs.ownBlock->p' x=0)/\(∀x,some x=ev.ownBlock->p' x=0)/\(∀x,p' x≠6)/\(∀x,x<v1.heap.size->p' x=0)/\ah wr (w+1) #[Kn,Kn] 35/\Below w w wr) (λk _=>n - (intOf k).toNat);case atStart=>exact⟨[],x0::r,z,p1,_,_,_,[],rfl,rfl,rfl,H3,hR0 z,ae.nil _ _,rfl,ae.nil _ _,Z3,pOB1,(λx hx=>by cases hx),(λx hx=>by cases hx),p61,Zp,R3,Kk⟩
 case round=>
  obtain⟨dn,rest,z',p',y,rs,ev,rl,rfl,Nr,hzY,H0,hR,RS0,Nv,ZE,Z0,pOB,prs,pev,p6',plow',R0,Kj⟩:=hrel;clear H3 Z3 X3 R3 Kk Zp pOB1 p61;have zw:=Kj.size;obtain⟨q,hq⟩:=Nq dn.length;have Kv:dn.length+rest.length=n:=by rw[<- hn,Nr,qL]
  obtain⟨Zr,Zs,rfl⟩:=ae.slice RS0;obtain⟨Xu,Qm,rfl⟩:=ae.slice ZE;obtain⟨en,Qb⟩:=Nq y.ev.length;rw[Nv] at RS0 prs Z0;rw[Qb] at ZE pev Z0;rw[hq] at Kv H0 RS0 prs Z0 Nv ⊢;cases rest with
  | nil=>
   refine η6 ?_;intro Ku hd;have KW:dn=x0::r:=by rw[Nr,qA]
   rw[KW] at hR;clear KW;change Hid _ at Nr Kv hq Nv Qb hn;have cZ:=Z0.cell;have fZ:=Z0.frozen;have zZ:=Z0.size;have cR:=R0.cell;have fR:=R0.frozen;have zR:=R0.size;have nRZ:w+1≠OB:=ρa;go_wp2_with fail;refine eR wr (λx=>x=w.heap.size+1) (λu=>ah u (w+1) #[ζ Zr q Zs,ζ Xu en Qm] 35) ρB (λ_ kx=>kx) ?_;rintro u Ru ku;clear cZ fZ zZ cR fR zR;have cR:=Ru.cell;refine qO (v:=χ #[φ #[ζ Zr q Zs,ζ Xu en Qm],Kz]) (by simp[results,Tryz.results9,go_sem,cR]) rfl ?_;refine⟨_,_,rfl,y,⟨z',hR⟩,?_,⟨_,_,_,rfl⟩,Kj.trans (ku.below ρa ρy)⟩;exact ae.ko ZE ku (λx _ hx e=>ae.ne_blk ZE R0 ρf τw)
  | cons x rest=>
   refine δH ?_;intro Ku hd;have hi:(x0::r)[q]?=some x:=by rw[Nr,<- hq];simp
   have Nu:q<n:=ρa;obtain⟨g,off,cs,rfl,hg,VK,hrg⟩:=RV q x hi;have hOw:=jp.below VK (Kj.mono hB);have RA:wr.rangeAt g (off+q*10) cs:=λj u hj=>(Kj.cell (p:=⟨g,off+q*10+j,none⟩) (by show g<_;omega)).trans (hrg j u hj);have hO0':=VK;obtain⟨cv,rv,rfl,g1,g2⟩:=VK;obtain⟨ca,cc,rfl,_⟩:=g1.slice;obtain⟨ra,rc,rfl,_⟩:=g2.slice;obtain⟨cn,LD⟩:=Nq x.ch.length;obtain⟨rn,Uf⟩:=Nq x.rl.length;rw[LD] at hO0' hOw RA;rw[Uf] at hO0' hOw RA;clear g1 g2 hrg;change Hid _ at hq LD Uf Nv Qb Nr Kv hi;have hwB:w.heap.size<=wr:=zw;go_upto_region 10 with (refine Go.wpList_load_mid rfl 80 _ rfl g (off+q*10) rfl [ι ε x.k,ζ ca cn cc,ζ ra rn rc,x.pk.id,ι ε x.pk.len,ι ω x.pk.h0,ι ω x.pk.h1,ι ω x.pk.h2,ι ω x.pk.h3,x.tk] _ RA Tryz.underlying80 rfl ρi ?_);refine aV wr (λv=>Below wr wr v) (λv=>Below wr wr v/\ah v wr #[ι ε x.k,ζ ca cn cc,ζ ra rn rc,x.pk.id,ι ε x.pk.len,ι ω x.pk.h0,ι ω x.pk.h1,ι ω x.pk.h2,ι ω x.pk.h3,x.tk] 80) ρE (λkx=>⟨kx,ρB⟩) ?_;rintro va ⟨ka,D1⟩;have za:=ka.size;have H1:=(H0.more wr 0 (qR _)).below ka;have RS1:=ae.below RS0 ka;have EV1:=ae.below ZE ka;obtain⟨Z1,R1⟩:=Mw ka (θ2 Z0 R0);have zZ0:=Z0.size;have zR0:=R0.size;have I':Below w w va:=Kj.trans (ka.mono zw);have zrs:∀x,some x=(Value.slice Zr q Zs).ownBlock->x<wr.heap.size:=λx hx=>(ae.own_ge RS0 x hx.symm).2;have zev:∀x,some x=(Value.slice Xu en Qm).ownBlock->x<wr.heap.size:=λx hx=>(ae.own_ge ZE x hx.symm).2;obtain⟨pa,hpa⟩:=Nq (p'.more wr 0);rw[hpa] at H1;have qa:∀x,x<wr.heap.size->pa x=p' x:=λx hx=>by rw[<- hpa];exact Pt.more_lt hx
   have pa6:∀x,pa x≠6:=λx=>by rw[<- hpa];unfold Pt.more;split;exact p6' x;omega
   have zv1:v1.heap.size<=wr:=τl;have TF:∀x,x<v1.heap.size->pa x=0:=λx hx=>(qa x ρa).trans (plow' x hx);have paD:pa wr.heap.size=0:=by rw[<- hpa];exact Pt.more_ge (qR _)
   clear hpa H0 RS0 ZE Z0 R0 Kj;have Ss:=D1.r;have hH1:aE pa va z' (dn.length:Nat) (2*dn.length) y:=by rw[hq.out];exact H1
   have cDo:=ag (hDo dn rest x Nr.out pa z' y va hH1 hR pa6 _ hO0' (hOw.below (ka.mono ρa)) (λx hx=>TF x τl) I');rw[hzY] at cDo;go_wp2_with fail;refine cDo.out.mono ?_;rintro e vb ⟨a,b,c,v,z2,p2,y2,l2,rfl,Li,YJ,q2,H2,G2,pv2,p62,VO,k2⟩;clear cDo hH1;rw[hq.out] at H2;have zb:=k2.size;obtain⟨va2,vc2,rfl⟩:=ae.slice G2;obtain⟨ln,Om⟩:=Nq l2.length;rw[Om] at G2 pv2 ⊢;replace Om:=ag Om;have RS2:=ae.ko RS1 k2 (λx _ hx h=>h ((qa x (zrs x hx)).trans (prs x hx)));have EV2:=ae.ko EV1 k2 (λx _ hx h=>h ((qa x (zev x hx)).trans (pev x hx)));have Z2:=Z1.ko k2 (λh=>h ((qa _ zZ0).trans pOB));have R2:=R1.ko k2 (λh=>h (TF _ τl));have J':Below w w vb:=I'.trans (k2.below ρa (λx hx h=>h (TF x τl)));have prs2:∀x,some x=(Value.slice Zr q Zs).ownBlock->p2 x=0:=λx hx=>(q2 x (by have:=zrs x hx;omega)).trans ((qa x (zrs x hx)).trans (prs x hx));have pev2:∀x,some x=(Value.slice Xu en Qm).ownBlock->p2 x=0:=λx hx=>(q2 x (by have:=zev x hx;omega)).trans ((qa x (zev x hx)).trans (pev x hx));have pOB2:p2 OB=0:=(q2 _ ρa).trans ((qa _ zZ0).trans pOB);have plow2:∀x,x<v1.heap.size->p2 x=0:=λx hx=>(q2 x ρa).trans (TF x hx);clear H1 RS1 EV1 Z1 R1 I' D1 ka k2;have zZ2:=Z2.size;have zR2:=R2.size;have UP:=hRl _ _ _ YJ;rw[VO,qL,qL,mE,hq.out] at UP;obtain⟨p3,RW⟩:=Nq (p2.more vb 0);have H2':=H2.more vb 0 (qR _);rw[RW] at H2';have q3:∀x,x<vb.heap.size->p3 x=p2 x:=λx hx=>by rw[<- RW];exact Pt.more_lt hx
   have r3:∀x,vb.heap.size<=x->p3 x=0:=λx hx=>by rw[<- RW];exact Pt.more_ge hx
   have p36:∀x,p3 x≠6:=λx=>by rw[<- RW];unfold Pt.more;split;exact p62 x;omega
   clear H2;have H2:=H2';clear H2' RW;have prs3:∀x,some x=(Value.slice Zr q Zs).ownBlock->p3 x=0:=λx hx=>(q3 x (by have:=zrs x hx;omega)).trans (prs2 x hx);have pev3:∀x,some x=(Value.slice Xu en Qm).ownBlock->p3 x=0:=λx hx=>(q3 x (by have:=zev x hx;omega)).trans (pev2 x hx);have pOB3:p3 OB=0:=(q3 _ zZ2).trans pOB2;have plow3:∀x,x<v1.heap.size->p3 x=0:=λx hx=>(q3 x ρa).trans (plow2 x hx);have S2:=RS2;have E2:=EV2;have kw2:KO (λx=>w.heap.size<=x) w vb:=KO.of_below J';clear J' RS2 EV2;have J':KO (λx=>w.heap.size<=x) vb vb:=KO.refl _ _;replace hn:=ag hn;go_upto_region 11 with (fail);refine aV vb (λv=>Below vb vb v) (λv=>KO (λx=>w.heap.size<=x) vb v/\ah v (OB) #[ζ Zr q Zs,ζ Xu en Qm] 35/\ah v ((w+1)) #[Kn,Kn] 35/\CX v w (ζ Zr q Zs) rl/\cG v w (ζ Xu en Qm) y.ev/\cG v va (ζ va2 ln vc2) l2/\aE p3 v z2 ((q:Int)+1) (2*q+2) y2/\ah v vb #[ι ε a,ι ε b,ι ε c] 93) ρE (λkx=>⟨J'.step0 kx,ρB,ρB,S2.below kx,E2.below kx,G2.below kx,H2.below kx,ρB⟩) ?_;rintro v3 ⟨Kk,Z3,R3,S3,E3,G3,H3,A3⟩;replace cZ:=Z3.cell;replace fZ:=Z3.frozen;replace zZ:=Z3.size;replace cR:=R3.cell;replace fR:=R3.frozen;replace zR:=R3.size;clear Ss;replace Rr:=A3.r;have z3:=Kk.size;go_upto_region 12 with (refine il Tryz.underlying32 BS rfl (λ_=>rfl) τC ρf ρf rfl (.tmp 42) (.tmp 44) rfl w (ζ Zr q Zs) rl (a,b,c) v3 #[ι ε a,ι ε b,ι ε c] rfl ρs ρs (S3.below ρE) ρB (by rw[Nv.out];omega) τx ?_;intro o4 v4 S4 kx Ue;replace kx:=kx.of_alloc;have Z4:=Z3.ko kx (λh=>ae.ne_blk S3 Z3 ρf h);have R4:=R3.ko kx (λh=>ae.ne_blk S3 R3 ρf h);have E4:=E3.ko kx (λx _ hx e=>ae.ne_hold S3 E3 ρf x e hx);have G4:=G3.ko kx (λx _ hx e=>ae.ne_hold S3 G3 ρf x e hx);have H4:=H3.ko kx (λx e=>.inl (prs3 x e));have Km:KO (λx=>w.heap.size<=x) vb v4:=Kk.trans kx (by intro y hy h;exact(ae.own_ge S3 y h.symm).1);have Vh:=Km.size;replace cZ:=Z4.cell;replace fZ:=Z4.frozen;replace zZ:=Z4.size;replace cR:=R4.cell;replace fR:=R4.frozen;replace zR:=R4.size;have hl4:(rl++[((a,b,c):Int × Int × Int)]).length=q+1:=(by rw[qL,Nv.out];rfl);obtain⟨rsa2,rsc2,rfl⟩:=ae.slice S4;rw[hl4] at S4 Ue;rw[hl4]);refine iq v4 (λx=>x=OB) (λv=>ah v (OB) #[ζ rsa2 (q+1) rsc2,ζ Xu en Qm] 35/\ah v ((w+1)) #[Kn,Kn] 35) ⟨ρB,ρB⟩ (λ_ kx=>θ5 (Km.trans kx σv) (S4.ko kx (λx _ hx e=>ae.ne_blk S4 Z4 ρf τw)) (E4.ko kx (λx _ hx e=>ae.ne_blk E4 Z4 ρf τw)) (G4.ko kx (λx _ hx e=>ae.ne_blk G4 Z4 ρf τw)) (H4.ko kx (λx e=>by rw[e];exact .inl pOB3))) ?_;rintro v5 ⟨Z5,R5⟩ ⟨Kw,S5,E5,G5,H5⟩;replace cZ:=Z5.cell;replace fZ:=Z5.frozen;replace zZ:=Z5.size;replace cR:=R5.cell;replace fR:=R5.frozen;replace zR:=R5.size;have z5:=Kw.size;have prs5:∀x,some x=(Value.slice rsa2 (q+1) rsc2).ownBlock->p3 x=0:=λx hx=>by rcases Ue x hx with g|g;exact prs3 x g;exact r3 x (by first|omega|(simp at g;omega))
   clear Ue;go_wp2_with (refine jR Tryz.underlying33 uX rfl (λ_=>rfl) τG ρf ρf rfl (.tmp 48) (.tmp 49) rfl w v5 (ζ Xu en Qm) (ζ va2 ln vc2) y.ev l2 ρs ρs E5 (ae.rd G5 (λ_=>rfl)) ρa ρa ?_;intro o6 v6 E6 kx Ue;have Z6:=Z5.ko kx (ae.ne_blk E5 Z5 ρf);have R6:=R5.ko kx (ae.ne_blk E5 R5 ρf);have S6:=ae.ko S5 kx (λx _ hx e=>ae.ne_hold E5 S5 ρf x e hx);have H6:=H5.ko kx (λx e=>.inl (pev3 x e));have KH:=Kw.trans kx (by intro y hy h;exact(ae.own_ge E5 y h.symm).1);have hl6:(y.ev++l2).length=en+ln:=(by rw[qL,Qb.out,Om.out]);obtain⟨VE,VF,rfl⟩:=ae.slice E6;rw[hl6] at E6 Ue;rw[hl6];replace cZ:=Z6.cell;replace fZ:=Z6.frozen;replace zZ:=Z6.size);have UT:(dn++[x]).length=q+1:=by rw[qL,hq.out];rfl
   have e9:((q+1:Nat):Int)=(q:Int)+1:=ρa;have z6:=KH.size;have kZ:KO (λx=>x=OB) v6 (v6.setCell ⟨OB,1,none⟩ (ζ VE (en+ln) VF)):=ρK;have H7:=H6.ko kZ (λx e=>by rw[e];exact .inl pOB3);have S7:=ae.ko S6 kZ (λx _ hx e=>ae.ne_blk S6 Z6 ρf τw);have E7:=ae.ko E6 kZ (λx _ hx e=>ae.ne_blk E6 Z6 ρf τw);have R7:=R6.ko kZ ρa;rw[show 2*q+2=2*(q+1) by omega,<- e9,<- UT] at H7;have Z7:ah (v6.setCell ⟨OB,1,none⟩ (ζ VE (en+ln) VF)) OB #[ζ rsa2 (q+1) rsc2,ζ VE (en+ln) VF] 35:=ρB;have KV:Below w w (v6.setCell ⟨OB,1,none⟩ (ζ VE (en+ln) VF)):=((kw2.trans KH (λx _ e=>e)).trans kZ (λx _ e=>by (try dsimp only at e);omega)).below (qR _) (λx hx h=>by (try dsimp only at h);omega);have pev7:∀x,some x=(Value.slice VE (en+ln) VF).ownBlock->p3 x=0:=λx hx=>by rcases Ue x hx with g|g;exact pev3 x g;exact r3 x ρa
   have Nk:(rl++[((a,b,c):Int × Int × Int)]).length=(dn++[x]).length:=by rw[UT,qL,Nv.out];rfl
   rw[<- VO] at E7;go_roundw;case rel=>exact⟨dn++[x],rest,z2,p3,y2,_,_,rl++[(a,b,c)],by rw[UT];go_num,by rw[Nr.out];simp,Li,H7,YJ,S7,Nk,E7,Z7,pOB3,prs5,pev7,p36,plow3,R7,KV⟩
   case measure=>exact ξb
theorem Jz (T Lm:Int)(hT:1<=T/\T<=65536)(hL:1<=Lm/\Lm<=16384)(x0:OI)(r:List OI)(L2:List CD)(Pn:Int->Prop)(v:ϗ)(B:Nat)(w:ϖ)(G:iw w B v (x0::r))(F:nF w B T x0 L2 Pn)(K7:∀y0,nj T Lm L2 Pn y0->y0.Ok)(KC:(x0::r).length<=1000)(hr:∀x ∈ r,x.k≠1/\x.fine):Calls Ψ 9 #[φ #[ι ε T,ι ε Lm,v]] w λe w'=>∃rs ev y,e=ϰ (χ #[φ #[rs,ev],Kz])/\eS T Lm (nj T Lm L2 Pn) (x0::r) y/\cG w' w ev y.ev/\(∃ra rn rc,rs=ζ ra rn rc)/\Below w w w':=by
 have hB:B<=w:=by obtain⟨_,_,_,_,hB,_⟩:=G;exact hB
 refine(DB T Lm hT hL x0 r v B w G KC (λdn _ y=>eS T Lm (nj T Lm L2 Pn) dn y) (λ_=>rfl) (λdn z y h=>h.len K7) (λdn rest x Nr p z y w1 H hR h6 cs VK hO NT hw=>FD T Lm x0 r L2 Pn w B F K7 KC hr dn rest x Nr p z y w1 H hR h6 cs VK hO NT hB hw)).mono ?_;rintro e w' ⟨rs,ev,y,h1,⟨z,h2⟩,h3⟩;exact⟨rs,ev,y,h1,h2,h3⟩
def Ip (op:Int)(x:OI)(y:YS)(z z':SA)(y':YS):Prop:=(x.k=2->∃a,AW x.rl a y z' y')/\(x.k=3->DD op x.pk y z z' y')/\(x.k=4->DE op x.tk y z z' y')
inductive jc (T Lm:Int) (L2:List CD) (Pn:Int->Prop):List OI->SA->YS->Prop
 | nil (z:SA):jc T Lm L2 Pn [] z ⟨f7 T Lm [],0,0,[]⟩
 | one (x:OI) (z:SA) (y:YS):nj T Lm L2 Pn y->jc T Lm L2 Pn [x] z y
 | snoc {dn:List OI} {x:OI} {z:SA} {y:YS} {z':SA} {y':YS}:dn≠[]->jc T Lm L2 Pn dn z y->Ip (dn.length:Nat) x y z z' y'->jc T Lm L2 Pn (dn++[x]) z' y'
theorem jc.back {T Lm:Int} {L2:List CD} {Pn:Int->Prop} {l:List OI} {z':SA} {y':YS} (h:jc T Lm L2 Pn l z' y'):∀dn x,l=dn++[x]->dn≠[]->∃z y,jc T Lm L2 Pn dn z y/\Ip (dn.length:Nat) x y z z' y':=by
 cases h with
 | nil=>intro dn x e;cases dn<;>cases e
 | one x0 z y hs=>
  intro dn x e hd;cases dn with
  | nil=>exact ax rfl hd
  | cons a r=>have:=qG List.length e;simp at this
 | @snoc dn0 x0 z y _ _ hd0 h1 h2=>
  intro dn x e hd;obtain⟨rfl,h⟩:=List.append_inj' e rfl;cases h
  exact⟨z,y,h1,h2⟩
theorem Jx (T Lm:Int)(x0:OI)(r:List OI)(L2:List CD)(Pn:Int->Prop)(w0:ϖ)(B:Nat)(F:nF w0 B T x0 L2 Pn)(K7:∀y0,nj T Lm L2 Pn y0->y0.Ok)(KC:(x0::r).length<=1000)(hr:∀x ∈ r,x.k≠1/\x.fine)
  (dn rest:List OI) (x:OI) (Nr:x0::r=dn++x::rest) (p:Pt) (z:SA) (y:YS) (w:ϖ) (H:aE p w z dn.length (2*dn.length) y) (hR:eS T Lm (nj T Lm L2 Pn) dn y) (hX:jc T Lm L2 Pn dn z y) (h6:∀x,p x≠6) (cs:List ϗ) (VK:jp w0 B x cs) (hO:jp w B x cs) (NT:∀x,x<w0.heap.size->p x=0) (hB:B<=w0) (hw:Below w0 w0 w):Calls Ψ 30 #[pt z.Y,φ cs.toArray] w λe w'=>∃a b c v z' p' y' l',e=ϰ (χ #[φ #[ι ε a,ι ε b,ι ε c],v])/\z'.Y=z.Y/\(eS T Lm (nj T Lm L2 Pn) (dn++[x]) y'/\jc T Lm L2 Pn (dn++[x]) z' y')/\(∀x,x<w.heap.size->p' x=p x)/\aE p' w' z' (dn.length+1) (2*dn.length+2) y'/\cG w' w v l'/\(∀x,some x=v.ownBlock->p' x=0)/\(∀x,p' x≠6)/\y'.ev=y.ev++l'/\KO (λx=>p x≠0) w w':=by
 have Om:dn.length<=1000:=by have:=qG List.length Nr;simp at this KC;omega
 have WI:∀x,x<w.heap.size->p x≠6:=λx _=>h6 x;cases dn with
 | nil=>
  have hx:x0=x:=by simpa using (List.cons.inj Nr).1
  subst hx;have hy:y=⟨f7 T Lm [],0,0,[]⟩:=hR;subst hy;obtain⟨cv,rv,rfl,g1,g2⟩:=VK;obtain⟨a,Kt,RR,_⟩:=g1.slice;have Tv:=F.k;obtain⟨xk,xch,xrl,xpk,xtk⟩:=x0;simp only at Tv;subst Tv;refine δP ?_;rintro e w' ⟨n,i,v,z',p',s',rfl,e1,hc,e2,H',G',e3,e4,k'⟩;have LS:nj T Lm L2 Pn ⟨s',0,0,[]⟩:=ηT
  exact⟨n,i,0,v,z',p',⟨s',0,0,[]⟩,[],rfl,e1,⟨⟨⟨s',0,0,[]⟩,LS,.nil⟩,.one _ z' _ LS⟩,e2,H'.mono ρa,G',e3,e4,rfl,k'⟩
 | cons x1 dn=>
  obtain⟨LI,OG⟩:=List.cons.inj Nr;subst LI;obtain⟨hk,hf⟩:=hr x (by rw[OG];simp);have hy:y.Ok:=by obtain⟨y0,h1,h2⟩:=hR;exact(h2.ok (K7 y0 h1)).1
  obtain⟨cv,rv,rfl,g1,g2⟩:=hO;have fin:∀{w':ϖ} {a b c:Int} {v:ϗ} {z':SA} {p':Pt} {y':YS} {l':List EV},z'.Y=z.Y->lD ((dn.length:Int)+1) y y'->(∀x,x<w.heap.size->p' x=p x)->aE p' w' z' (((x0::dn).length:Int)+1) (2*(x0::dn).length+2) y'->cG w' w v l'->(∀x,some x=v.ownBlock->p' x=0)->(∀x,p' x≠6)->y'.ev=y.ev++l'->KO (λx=>p x≠0) w w'->y'.clk=x.clk y.clk->Ip ((x0::dn).length:Nat) x y z z' y'->
    ∃a' b' c' v' z' p' y' l',(Ending.returned (χ #[φ #[ι ε a,ι ε b,ι ε c],v])=ϰ (χ #[φ #[ι ε a',ι ε b',ι ε c'],v']))/\z'.Y=z.Y/\(eS T Lm (nj T Lm L2 Pn) (x0::dn++[x]) y'/\jc T Lm L2 Pn (x0::dn++[x]) z' y')/\(∀x,x<w.heap.size->p' x=p x)/\aE p' w' z' (((x0::dn).length:Int)+1) (2*(x0::dn).length+2) y'/\cG w' w v' l'/\(∀x,some x=v'.ownBlock->p' x=0)/\(∀x,p' x≠6)/\y'.ev=y.ev++l'/\KO (λx=>p x≠0) w w':=
   λe1 e2 e3 e4 e5 e6 e7 e8 e9 QM e11=>⟨_,_,_,_,_,_,_,_,rfl,e1,⟨hR.snoc hk e2 QM,.snoc ρp hX e11⟩,e3,e4,e5,e6,e7,e8,e9⟩
  have RV:0<=((x0::dn).length:Int)/\((x0::dn).length:Int)<=100000:=ρa;have LS:(((x0::dn).length:Nat):Int)=(dn.length:Int)+1:=ρp;by_cases k2:x.k=2
  ·refine(show Calls _ _ _ _ _ from by
    have:=Ig p z _ _ y cv rv x.pk x.tk x.rl B w H hy WI RV ρa g2 hf.rl (λx hx=>NT x ρa);rw[<- k2] at this;exact this).mono ?_
   rintro e w' ⟨a,b,c,v,z',p',y',l',rfl,e1,e2,e3,e4,e5,e6,e7,e8,_,e9,QM,hD⟩;exact fin e1 (LS ▸ e2) e3 e4 e5 e6 e7 e8 e9 τE (⟨λ_=>⟨_,hD⟩,λh=>by omega,λh=>by omega⟩)
  by_cases k3:x.k=3
  ·refine(show Calls _ _ _ _ _ from by
    have:=Ih p z _ _ y cv rv x.pk x.tk w H hy WI RV ρa;rw[<- k3] at this;exact this).mono ?_
   rintro e w' ⟨a,b,c,v,z',p',y',l',rfl,e1,e2,e3,e4,e5,e6,e7,e8,_,e9,QM,hD⟩;exact fin e1 (LS ▸ e2) e3 e4 e5 e6 e7 e8 e9 τE (⟨λh=>by omega,λ_=>hD,λh=>by omega⟩)
  by_cases k4:x.k=4
  ·refine(show Calls _ _ _ _ _ from by
    have:=Ii p z _ _ y cv rv x.pk x.tk w H hy WI RV ρa hf.tk;rw[<- k4] at this;exact this).mono ?_
   rintro e w' ⟨a,b,c,v,z',p',y',l',rfl,e1,e2,e3,e4,e5,e6,e7,e8,_,e9,QM,hD⟩;exact fin e1 (LS ▸ e2) e3 e4 e5 e6 e7 e8 e9 (by rw[QM];unfold OI.clk;rw[qP k4]) (⟨λh=>by omega,λh=>by omega,λ_=>hD⟩)
  ·refine(If p z _ _ y x.k cv rv x.pk x.tk w H hy WI RV ρa ⟨hk,k2,k3,k4⟩).mono ?_;rintro e w' ⟨a,b,c,v,z',p',y',l',rfl,e1,e2,e3,e4,e5,e6,e7,e8,_,e9,QM,hD⟩;exact fin e1 (LS ▸ e2) e3 e4 e5 e6 e7 e8 e9 (by rw[QM];unfold OI.clk;rw[qI k4]) (⟨λh=>ax h k2,λh=>ax h k3,λh=>ax h k4⟩)
theorem Ik (T Lm:Int)(hT:1<=T/\T<=65536)(hL:1<=Lm/\Lm<=16384)(x0:OI)(r:List OI)(L2:List CD)(Pn:Int->Prop)(v:ϗ)(B:Nat)(w:ϖ)(G:iw w B v (x0::r))(F:nF w B T x0 L2 Pn)(K7:∀y0,nj T Lm L2 Pn y0->y0.Ok)(KC:(x0::r).length<=1000)(hr:∀x ∈ r,x.k≠1/\x.fine):Calls Ψ 9 #[φ #[ι ε T,ι ε Lm,v]] w λe w'=>∃rs ev z y,e=ϰ (χ #[φ #[rs,ev],Kz])/\jc T Lm L2 Pn (x0::r) z y/\cG w' w ev y.ev/\(∃ra rn rc,rs=ζ ra rn rc)/\Below w w w':=by
 have hB:B<=w:=by obtain⟨_,_,_,_,hB,_⟩:=G;exact hB
 refine(DB T Lm hT hL x0 r v B w G KC (λdn z y=>eS T Lm (nj T Lm L2 Pn) dn y/\jc T Lm L2 Pn dn z y) (λz=>⟨rfl,.nil z⟩) (λdn z y h=>h.1.len K7) (λdn rest x Nr p z y w1 H hR h6 cs VK hO NT hw=>Jx T Lm x0 r L2 Pn w B F K7 KC hr dn rest x Nr p z y w1 H hR.1 hR.2 h6 cs VK hO NT hB hw)).mono ?_;rintro e w' ⟨rs,ev,y,h1,⟨z,h2⟩,h3⟩;exact⟨rs,ev,z,y,h1,h2.2,h3⟩
def cA:CD:=⟨1,0,true,0,0,0,65536,0,65536,0,0,0,3,300⟩
def pA:PK:=⟨7,100,0,0,0,0⟩
theorem pf:fc [cA] 1=some cA:=rfl
theorem q7 {i:Int} {c:CD} (h:fc [cA] i=some c):i=1/\c=cA:=by obtain⟨h1,h2⟩:=fH h;rw[qS] at h1;subst h1;exact⟨h2.symm,rfl⟩
theorem Af:eZ cA=true:=by decide
theorem nh.cA:nh [cA]:=by
 refine⟨rfl,λi c h=>?_,⟨λ_=>0,λi c h=>?_⟩,λc h=>?_,by decide,λc h=>?_⟩
 ·obtain⟨_,rfl⟩:=q7 h;exact .inl rfl
 ·obtain⟨_,rfl⟩:=q7 h;exact⟨by show 0<=900;omega,λg=>ax rfl g⟩
 ·rw[qS] at h;subst h;decide
 ·rw[qS] at h;subst h;exact pf
theorem lc.cA:lc [cA]:=by intro c h;rw[qS] at h;subst h;refine⟨?_,?_,by decide⟩<;>(unfold dk;decide)
theorem CP {xs:List Int} (h:dB [cA] 1 xs):xs=[1]:=jQ h ⟨Go.Proofs.YtfdlemkplejdnaaGreat.cA,pf,rfl,by show fc _ _=none;rfl⟩
structure AL (s:SS) (q:List PK):Prop where
 L:s.L=[cA]
 T:s.T=1
 Lm:s.Lm=100
 Z:s.Z
 q:(s.e 1).q=q
section
variable {s:SS} {q:List PK}
theorem AL.kd1 (h:AL s q)(I:s.Inv)(hq:q≠[]):s.kd 0 1=some ((s.e 1).sh.t,0)/\∀j,j≠1->s.kd 0 j=none:=by
 have hc:fc s.L 1=some cA:=by rw[h.L];exact pf
 have NJ:s.A.on 1=true:=(I.on 1).2 ⟨cA,hc,rfl,Af,by rw[h.q];exact hq⟩;have hk:1 ∈ s.A.K 0:=(I.kk 0 1).2 ⟨cA,hc,rfl,Af,.inl NJ⟩;have hf:s.fit 1=0:=by unfold SS.fit;rw[qP (.inl (by rw[I.ec 1 cA hc];rfl)),(h.Z 1).1];rfl
 refine⟨by rw[I.kd 1 0,qP hk,hf],λj hj=>?_⟩;rw[I.kd j 0,qI (λg=>?_)];obtain⟨d,hd,_⟩:=(I.kk 0 j).1 g;rw[h.L] at hd;exact hj (q7 hd).1
theorem AL.fitT (h:AL s q)(I:s.Inv)(hq:q≠[]):fitT (s.kd 0)=0:=by
 obtain⟨h1,h2⟩:=h.kd1 I hq;refine uY ⟨.inr ⟨1,_,h1,rfl⟩,by omega,λj x hx=>?_⟩;by_cases hj:j=1
 ·subst hj;rw[h1] at hx;cases hx;exact qJ _
 ·rw[h2 j hj] at hx;cases hx
end
theorem AL.pick {op:Int} {y z:YS} {p:PK} {r:List PK} (h:AL y.s (p::r))(O:y.Ok0)(ht:y.til<=y.clk)(hp:fW op y z):AL z.s r/\z.s.acc=y.s.acc/\z.Ok/\z.til=y.clk+p.len/\z.clk=y.clk/\∃x,z.ev=y.ev++[⟨op,false,x,y.clk,y.clk+p.len,1,p⟩]:=by
 have hz:=hp.ok O;cases hp with
 | busy hb=>omega
 | idle hb K8=>have:=O.told.1.idle O.clk.2.2 K8;have h0:=h.fitT O.inv ρp;have h0:Go.Proofs.YtfdlemkplejdnaaGreat.fitT (({y.s with clk:=y.clk}:SS).kd 0)=0:=h0;rw[h0] at this;have:=O.clk;omega
 | @pick i x c xs p' r' hb K8 hc hq hu=>
  have RQ:=hc;rw[h.L] at RQ hu;obtain⟨rfl,rfl⟩:=q7 RQ;rw[h.q] at hq;cases hq
  obtain rfl:=CP hu;obtain⟨_,_,T,_⟩:=O.pick K8 hc h.q (by rw[h.L];exact hu);refine⟨⟨T.L.trans h.L,T.T.trans h.T,T.Lm.trans h.Lm,h.Z.took T,by rw[T.q];rfl⟩,T.acc,hz.1,?_,rfl,x,?_⟩
  ·show y.clk+y.s.T*p.len=_;rw[h.T,Int.one_mul]
  ·show y.ev++[⟨_,_,_,_,y.clk+y.s.T*p.len,_,_⟩]=_;rw[h.T,Int.one_mul]
theorem AL.put {op:Int} {y y':YS} {q:List PK} (h:AL y.s q)(hy:y.Ok)(ha:y.s.acc<=1000)(hq:q=[]\/q=[pA])(hp:qg op y 1 pA y'):∃s',AL s' (q++[pA])/\s'.acc=y.s.acc+100/\YS.Ok0 {y with s:=s',ev:=y.ev++[⟨op,true,false,y.clk,0,1,pA⟩]}/\fW op {y with s:=s',ev:=y.ev++[⟨op,true,false,y.clk,0,1,pA⟩]} y':=by
 obtain⟨xs,n,s',hP,e,hc⟩:=hp;have hf:fc y.s.L 1=some cA:=by rw[h.L];exact pf
 have P:=hP cA hf;have h0:n=0:=by have:=yR (s:=y.s) (now:=y.clk) (i:=1) (p:=pA) (xs:=xs) (c:=cA) ⟨hy.clk.1,hy.clk.2.2⟩ hf rfl ⟨by decide,by rw[h.Lm];decide⟩ (by show y.s.acc+100<=_;omega) (by rw[h.q];rcases hq with rfl|rfl<;>decide) (by rw[h.q];rcases hq with rfl|rfl<;>decide);rw[e] at this;exact this
 subst h0;rcases hc with ⟨g,_⟩|⟨_,hpump⟩
 ·exact ax rfl g
 have I:=hy.inv.put hP e;rcases bY hy.inv.ec (qD.1 P.nd).2 e with ⟨g,_⟩|⟨_,c,F⟩
 ·exact ax rfl g
 have N:=F.num hy.num hy.inv (λy hy=>eV P.up y hy);refine⟨s',⟨F.L.trans h.L,F.T.trans h.T,F.Lm.trans h.Lm,h.Z.put e,by rw[F.q,qP rfl,h.q]⟩,F.acc,⟨I,N,⟨by show SS.clk _<=_;rw[F.clk];exact qJ _,hy.clk.2⟩,by show 1<=SS.T _/\SS.T _<=_;rw[F.T];exact hy.tt,hy.til⟩,hpump⟩
theorem AL.rounds {op:Int} {y y':YS} (h:AL y.s [pA])(hy:y.Ok)(hc:y.clk=0)(ht:y.til=100)(hr:cf op 150 y y'):∃x,y'.ev=y.ev++[⟨op,false,x,100,200,1,pA⟩]:=by
 have hn:y.next=100:=by have h0:=h.fitT hy.inv ρp;unfold YS.next YS.due;rw[h0,hc,ht];omega
 cases hr with
 | done g=>rw[hn] at g;omega
 | @next _ z _ _ hp hr=>
  have O:=hy.at_next (stop:=150) ρa (by rw[hn];omega);rw[hn] at hp O;obtain⟨_,_,_,h3,h4,x,h5⟩:=AL.pick (y:={y with clk:=100}) h O (by show y.til<=100;omega) hp;have h3:z.til=100+100:=h3;have h4:z.clk=100:=h4;refine⟨x,?_⟩;have hz:150<z.next:=by unfold YS.next;omega
  cases hr with
  | done _=>exact h5
  | next g=>omega
def rA:RL:=⟨⟨0,0,0,0⟩,⟨0,0,0,0⟩,1⟩
def EJ:List OI:=[⟨1,[(1,cA)],[],PK.zero,0⟩,⟨2,[],[rA],PK.zero,0⟩,⟨3,[],[],pA,0⟩,⟨3,[],[],pA,0⟩,⟨4,[],[],PK.zero,150⟩]
theorem jc.first {T Lm:Int} {L2:List CD} {Pn:Int->Prop} {x:OI} {z:SA} {y:YS} (h:jc T Lm L2 Pn [x] z y):nj T Lm L2 Pn y:=by
 generalize hl:[x]=l at h;cases h with
 | nil=>cases hl
 | one _ _ _ hs=>exact hs
 | snoc hd h1 h2=>exfalso;have h3:=qG List.length hl;rw[qL] at h3;exact hd (List.eq_nil_of_length_eq_zero (by simpa using h3))
theorem oX {z:SA} {y:YS} (h:jc 1 100 [cA] (·=0) EJ z y):∃a b,y.ev=[⟨2,true,false,0,0,1,pA⟩,⟨2,false,a,0,100,1,pA⟩,⟨3,true,false,0,0,1,pA⟩,⟨4,false,b,100,200,1,pA⟩]:=by
 obtain⟨z4,y4,h,_,_,d5⟩:=h.back [⟨1,[(1,cA)],[],PK.zero,0⟩,⟨2,[],[rA],PK.zero,0⟩,⟨3,[],[],pA,0⟩,⟨3,[],[],pA,0⟩] ⟨4,[],[],PK.zero,150⟩ rfl ρp;obtain⟨z3,y3,h,_,d4,_⟩:=h.back [⟨1,[(1,cA)],[],PK.zero,0⟩,⟨2,[],[rA],PK.zero,0⟩,⟨3,[],[],pA,0⟩] ⟨3,[],[],pA,0⟩ rfl ρp;obtain⟨z2,y2,h,_,d3,_⟩:=h.back [⟨1,[(1,cA)],[],PK.zero,0⟩,⟨2,[],[rA],PK.zero,0⟩] ⟨3,[],[],pA,0⟩ rfl ρp;obtain⟨z1,y1,h,d2,_,_⟩:=h.back [⟨1,[(1,cA)],[],PK.zero,0⟩] ⟨2,[],[rA],PK.zero,0⟩ rfl ρp;obtain⟨a,d2,WD⟩:=d2 rfl;obtain⟨t2,rfl⟩:=d2 (WD (by refine⟨by decide,λr hr=>?_⟩;rw[qS] at hr;subst hr;exact⟨by decide,by decide,rfl⟩));obtain⟨t3,d3⟩:=d3 rfl;obtain⟨_,d4⟩:=d4 rfl;obtain⟨_,d5⟩:=d5 rfl;rw[t2] at d3;rw[t3,t2] at d4;have d3:qg 2 y2 1 pA y3:=d3 rfl;have d4:qg 3 y3 1 pA y4:=d4 rfl;rcases h.first with ⟨n,g1,g2,_⟩|⟨_,rfl⟩
 ·exact ax g2 g1
 have O1:YS.Ok ⟨f7 1 100 [cA],0,0,[]⟩:=f7.ok nh.cA ρf lc.cA ρf ρf;have A1:AL (f7 1 100 [cA]) []:=by
  refine⟨rfl,rfl,rfl,λj=>⟨rfl,?_⟩,rfl⟩;show Go.Proofs.YtfdlemkplejdnaaGreat.kd (dP [cA] j).u0 (dP [cA] j).u1 (dP [cA] j).u2<2;unfold dP;cases e:fc [cA] j with
  | none=>decide
  | some c=>obtain⟨_,rfl⟩:=q7 e;decide
 obtain⟨s2,A2,c2,O2,p2⟩:=A1.put O1 ρf (.inl rfl) d3;obtain⟨A3,c3,O3,l3,k3,a,e3⟩:=AL.pick A2 O2 (qJ _) p2;have c2:s2.acc=0+100:=c2;have c3:y3.s.acc=s2.acc:=c3;have l3:y3.til=0+100:=l3;have k3:y3.clk=0:=k3;obtain⟨s4,A4,c4,O4,p4⟩:=A3.put O3 ρa (.inl rfl) d4;have hb:y4={y3 with s:=s4,ev:=y3.ev++[⟨3,true,false,y3.clk,0,1,pA⟩]}:=by
  cases p4 with
  | busy _=>rfl
  | idle g _=>exfalso;have g:y3.til<=y3.clk:=g;omega
  | pick g _ _ _ _=>exfalso;have g:y3.til<=y3.clk:=g;omega
 have hp:fW 3 {y3 with s:=s4,ev:=y3.ev++[⟨3,true,false,y3.clk,0,1,pA⟩]} {y3 with s:=s4,ev:=y3.ev++[⟨3,true,false,y3.clk,0,1,pA⟩]}:=.busy (by show y3.clk<y3.til;omega);have O5:=(hp.ok O4).1;have d5:cf 4 (y4.clk+150) y4 y:=d5 (by rw[hb];show (150:Int)<=4611686018427387904 - y3.clk;omega);have hk:y4.clk+150=150:=by rw[hb];show y3.clk+150=150;omega
 rw[hk,hb] at d5;obtain⟨b,e5⟩:=AL.rounds A4 O5 k3 (by show y3.til=100;omega) d5;refine⟨a,b,?_⟩;rw[e5];show (y3.ev++[⟨3,true,false,y3.clk,0,1,pA⟩])++_=_;rw[e3,k3];rfl
end Go.Proofs.YtfdlemkplejdnaaGreat
