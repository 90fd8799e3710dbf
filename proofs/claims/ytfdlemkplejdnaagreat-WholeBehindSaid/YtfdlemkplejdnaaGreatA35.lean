/- WholeBehind, part 35. Conditions: none. -/
import Derived.Test.YtfdlemkplejdnaaGreatA34
namespace Go.Proofs.YtfdlemkplejdnaaGreat
open Go.RowKit Go.Sort
open Value renaming int->ι,pointer->ψ,slice->ζ,tuple->χ,agg->φ,map->μ,bool->β
open IntKind renaming u64->υ,i64->ε,u16->ω
open Ending renaming returned->ϰ
open Go.Proofs.Tryz renaming prog->Ψ,underlying3->Θ,underlying147->Δ,underlying152->Γ,underlying202->Φ,underlying39->Ξ,underlying207->Ω
open Go renaming World->ϖ,Value->ϗ
set_option linter.unusedVariables false
set_option linter.unusedSimpArgs false
set_option maxHeartbeats 8000000
set_option maxRecDepth 100000
theorem ae.ne_hold {α β:Type} {e e':TypeId} {n n':Nat} {enc:α->List ϗ} {enc':β->List ϗ} {w:ϖ} {b b':Nat} {v v':ϗ} {l:List α} {l':List β} (h:ae e n enc w b v l)(h':ae e' n' enc' w b' v' l')(IX:e≠e')(x:Nat)(hx:some x=v.ownBlock):some x≠v'.ownBlock:=by
 intro q;rcases h.2 with ⟨hv,_⟩|⟨g,IM,Lp,hv,_,hh,_⟩
 ·rw[hv] at hx;cases hx
 ·rcases h'.2 with ⟨hv',_⟩|⟨g',QJ,cur',hv',_,hh',_⟩
  ·rw[hv'] at q;cases q
  ·rw[hv] at hx;rw[hv'] at q;cases hx;cases q
   rw[hh] at hh';cases hh'
   exact IX rfl
abbrev Iw (x:Int × Int × Int):List ϗ:=[ι ε x.1,ι ε x.2.1,ι ε x.2.2]
abbrev Bq (w:ϖ)(base:Nat)(v:ϗ)(l:List (Int × Int × Int)):Prop:=ae 93 3 Iw w base v l
theorem eD.len {T Lm:Int} {L2:List CD} {Pn:Int->Prop} (Jo:∀y0,mz T Lm L2 Pn y0->y0.Ok) {l:List OI} {y:YS} (h:eD T Lm (mz T Lm L2 Pn) l y):y.ev.length<=2*l.length:=by
 cases l with
 | nil=>have h:y=_:=h;rw[h];simp
 | cons x l=>
  obtain⟨y0,h1,h2⟩:=h;have h3:(y0.ev.length:Int)+y0.s.pks<=0:=by rcases h1 with ⟨n,_,_,rfl⟩|⟨_,rfl⟩<;>simp[oN]
  have:=h2.len (Jo y0 h1) h3;have:=SS.pks_nonneg y.s;simp only[mM];omega
theorem Ao:(Ψ.info? 93).map (λi=>(i.zero,i.size,i.bytes))=some (some (φ #[Kz,Kz,Kz]),3,24):=by kernel_rfl
theorem BT (T Lm:Int)(hT:1<=T/\T<=65536)(hL:1<=Lm/\Lm<=16384)(x0:OI)(r:List OI)(v:ϗ)(B:Nat)(w:ϖ)(G:iP w B v (x0::r))(IS:(x0::r).length<=1000)(Rn:List OI->SA->YS->Prop)(hR0:∀z,Rn [] z ⟨fw T Lm [],0,0,[]⟩)(hRl:∀dn z y,Rn dn z y->y.ev.length<=2*dn.length)
  (hDo:∀(dn rest:List OI) (x:OI),x0::r=dn++x::rest->∀(p:Pt) (z:SA) (y:YS) (w1:ϖ),aD p w1 z dn.length (2*dn.length) y->Rn dn z y->(∀x,p x≠6)->∀cs:List ϗ,jd w B x cs->jd w1 B x cs->(∀x,x<w.heap.size->p x=0)->Below w w w1->Calls Ψ 30 #[pt z.Y,φ cs.toArray] w1 λe w'=>∃a b c v z' p' y' l',e=ϰ (χ #[φ #[ι ε a,ι ε b,ι ε c],v])/\z'.Y=z.Y/\Rn (dn++[x]) z' y'/\(∀x,x<w1.heap.size->p' x=p x)/\aD p' w' z' (dn.length+1) (2*dn.length+2) y'/\cD w' w1 v l'/\(∀x,some x=v.ownBlock->p' x=0)/\(∀x,p' x≠6)/\y'.ev=y.ev++l'/\KO (λx=>p x≠0) w1 w'):Calls Ψ 9 #[φ #[ι ε T,ι ε Lm,v]] w λe w'=>∃rs ev y,e=ϰ (χ #[φ #[rs,ev],Kz])/\(∃z,Rn (x0::r) z y)/\cD w' w ev y.ev/\(∃ra rn rc,rs=ζ ra rn rc)/\Below w w w':=by
 have G0:=G;obtain⟨oa,oc,rfl,Tu,hB,Po⟩:=G;obtain⟨n,hn⟩:=Nq ((x0::r).length);rw[hn] at IS Tu ⊢;go_in;go_wp2_with fail;refine av w (λv=>Below w w v) (λv=>Below w w v/\v.heap.size=w+2/\ah v w #[ι ε T,ι ε Lm,ζ oa n oc] 26/\ah v (w+1) #[Kn,Kn] 35) ρE (λkx=>⟨kx,by first|rfl|(simp;done),ρB,ρB⟩) ?_;rintro v1 ⟨k1,z1,X1,R1⟩;replace z1:=ag z1;refine(GU T Lm v1 hT hL).mono ?_;rintro e v2 ⟨z,p,rfl,H2,plow,p6,k2⟩;obtain⟨X2,R2⟩:=Mw k2 (θ2 X1 R1);have Iz:Below w w v2:=k1.trans (k2.mono τm);have YF:=k2.size;have d1:=df (1000<(n:Int));have Rr:=X2.r;have zR:=R2.size;clear X1 R1 k1 k2;go_upto_region 8 with (fail);refine aU v2 (λv=>Below v2 v2 v) (λv=>Below v2 v2 v/\ah v v2 #[Kn,Kn] 35) ρE (λkx=>⟨kx,ρB⟩) ?_;rintro v3 ⟨k3,Z3⟩;obtain⟨OB,hOB⟩:=Nq v2.heap.size;obtain⟨X3,R3⟩:=Mw k3 (θ2 X2 R2);have H3:=(H2.more v2 0 (ZR _)).below k3;have ID:Below w w v3:=Iz.trans (k3.mono ρa);obtain⟨p1,J9⟩:=Nq (p.more v2 0);rw[J9] at H3;have Yx:∀x,x<v1.heap.size->p1 x=0:=λx hx=>by rw[<- J9,Pt.more_lt ρa];exact plow x hx
 have pOB1:p1 v2.heap.size=0:=by rw[<- J9];exact Pt.more_ge (ZR _)
 have p61:∀x,p1 x≠6:=λx=>by rw[<- J9];unfold Pt.more;split;exact p6 x;omega
 have gOB:w+2<=OB:=τm;rw[hOB] at Z3 pOB1 ⊢;clear J9 zR X2 R2 H2 Iz k3 hOB plow p6;go_loopw [31] (λk wr=>∃(dn rest:List OI) (z':SA) (p':Pt) (y:YS) (rs ev:ϗ) (rl:List (Int × Int × Int)),k=ι ε (dn.length:Nat)/\x0::r=dn++rest/\z'.Y=z.Y/\aD p' wr z' dn.length (2*dn.length) y/\Rn dn z' y/\Bq wr w rs rl/\rl.length=dn.length/\cD wr w ev y.ev/\ah wr OB #[rs,ev] 35/\p' OB=0/\(∀x,some x=rs.ownBlock->p' x=0)/\(∀x,some x=ev.ownBlock->p' x=0)/\(∀x,p' x≠6)/\(∀x,x<v1.heap.size->p' x=0)/\ah wr (w+1) #[Kn,Kn] 35/\Below w w wr) (λk _=>n - (intOf k).toNat);case atStart=>exact⟨[],x0::r,z,p1,_,_,_,[],rfl,rfl,rfl,H3,hR0 z,ae.nil _ _,rfl,ae.nil _ _,Z3,pOB1,(λx hx=>by cases hx),(λx hx=>by cases hx),p61,Yx,R3,ID⟩
 case round=>
  obtain⟨dn,rest,z',p',y,rs,ev,rl,rfl,Mu,hzY,H0,hR,RS0,Nr,YJ,Z0,pOB,prs,pev,p6',plow',R0,IB⟩:=hrel;clear H3 Z3 X3 R3 ID Yx pOB1 p61;have zw:=IB.size;obtain⟨q,hq⟩:=Nq dn.length;have IK:dn.length+rest.length=n:=by rw[<- hn,Mu,ZL]
  obtain⟨Yy,Yz,rfl⟩:=ae.slice RS0;obtain⟨VZ,OC,rfl⟩:=ae.slice YJ;obtain⟨en,NC⟩:=Nq y.ev.length;rw[Nr] at RS0 prs Z0;rw[NC] at YJ pev Z0;rw[hq] at IK H0 RS0 prs Z0 Nr ⊢;cases rest with
  | nil=>
   refine η8 ?_;intro IJ hd;have Jg:dn=x0::r:=by rw[Mu,ZA]
   rw[Jg] at hR;clear Jg;change Hid _ at Mu IK hq Nr NC hn;have cZ:=Z0.cell;have fZ:=Z0.frozen;have zZ:=Z0.size;have cR:=R0.cell;have fR:=R0.frozen;have zR:=R0.size;have nRZ:w+1≠OB:=ρa;go_wp2_with fail;refine eu wr (λx=>x=w.heap.size+1) (λu=>ah u (w+1) #[ζ Yy q Yz,ζ VZ en OC] 35) ρB (λ_ kx=>kx) ?_;rintro u Ru ku;clear cZ fZ zZ cR fR zR;have cR:=Ru.cell;refine ZO (v:=χ #[φ #[ζ Yy q Yz,ζ VZ en OC],Kz]) (by simp[results,Tryz.results9,go_sem,cR]) rfl ?_;refine⟨_,_,rfl,y,⟨z',hR⟩,?_,⟨_,_,_,rfl⟩,IB.trans (ku.below ρa ρC)⟩;exact ae.ko YJ ku (λx _ hx e=>ae.ne_blk YJ R0 ρf τA)
  | cons x rest=>
   refine δb ?_;intro IJ hd;have hi:(x0::r)[q]?=some x:=by rw[Mu,<- hq];simp
   have KL:q<n:=ρa;obtain⟨g,II,cs,rfl,hg,Ui,hrg⟩:=Po q x hi;have hOw:=jd.below Ui (IB.mono hB);have RA:wr.rangeAt g (II+q*10) cs:=λj u hj=>(IB.cell (p:=⟨g,II+q*10+j,none⟩) (by show g<_;omega)).trans (hrg j u hj);have ZE:=Ui;obtain⟨cv,rv,rfl,g1,g2⟩:=Ui;obtain⟨ca,cc,rfl,_⟩:=g1.slice;obtain⟨ra,rc,rfl,_⟩:=g2.slice;obtain⟨cn,JG⟩:=Nq x.ch.length;obtain⟨rn,Sw⟩:=Nq x.rl.length;rw[JG] at ZE hOw RA;rw[Sw] at ZE hOw RA;clear g1 g2 hrg;change Hid _ at hq JG Sw Nr NC Mu IK hi;have hwB:w.heap.size<=wr:=zw;go_upto_region 10 with (refine Go.wpList_load_mid rfl 80 _ rfl g (II+q*10) rfl [ι ε x.k,ζ ca cn cc,ζ ra rn rc,x.pk.id,ι ε x.pk.len,ι ω x.pk.h0,ι ω x.pk.h1,ι ω x.pk.h2,ι ω x.pk.h3,x.tk] _ RA Tryz.underlying80 rfl ρh ?_);refine aU wr (λv=>Below wr wr v) (λv=>Below wr wr v/\ah v wr #[ι ε x.k,ζ ca cn cc,ζ ra rn rc,x.pk.id,ι ε x.pk.len,ι ω x.pk.h0,ι ω x.pk.h1,ι ω x.pk.h2,ι ω x.pk.h3,x.tk] 80) ρE (λkx=>⟨kx,ρB⟩) ?_;rintro va ⟨ka,D1⟩;have za:=ka.size;have H1:=(H0.more wr 0 (ZR _)).below ka;have RS1:=ae.below RS0 ka;have EV1:=ae.below YJ ka;obtain⟨Z1,R1⟩:=Mw ka (θ2 Z0 R0);have zZ0:=Z0.size;have zR0:=R0.size;have F':Below w w va:=IB.trans (ka.mono zw);have zrs:∀x,some x=(Value.slice Yy q Yz).ownBlock->x<wr.heap.size:=λx hx=>(ae.own_ge RS0 x hx.symm).2;have zev:∀x,some x=(Value.slice VZ en OC).ownBlock->x<wr.heap.size:=λx hx=>(ae.own_ge YJ x hx.symm).2;obtain⟨pa,hpa⟩:=Nq (p'.more wr 0);rw[hpa] at H1;have qa:∀x,x<wr.heap.size->pa x=p' x:=λx hx=>by rw[<- hpa];exact Pt.more_lt hx
   have pa6:∀x,pa x≠6:=λx=>by rw[<- hpa];unfold Pt.more;split;exact p6' x;omega
   have zv1:v1.heap.size<=wr:=τm;have RV:∀x,x<v1.heap.size->pa x=0:=λx hx=>(qa x ρa).trans (plow' x hx);have paD:pa wr.heap.size=0:=by rw[<- hpa];exact Pt.more_ge (ZR _)
   clear hpa H0 RS0 YJ Z0 R0 IB;have Ss:=D1.r;have hH1:aD pa va z' (dn.length:Nat) (2*dn.length) y:=by rw[hq.out];exact H1
   have cDo:=ag (hDo dn rest x Mu.out pa z' y va hH1 hR pa6 _ ZE (hOw.below (ka.mono ρa)) (λx hx=>RV x τm) F');rw[hzY] at cDo;go_wp2_with fail;refine cDo.out.mono ?_;rintro e vb ⟨a,b,c,v,z2,p2,y2,l2,rfl,Jr,XM,q2,H2,G2,pv2,p62,Um,k2⟩;clear cDo hH1;rw[hq.out] at H2;have zb:=k2.size;obtain⟨va2,vc2,rfl⟩:=ae.slice G2;obtain⟨ln,Lw⟩:=Nq l2.length;rw[Lw] at G2 pv2 ⊢;replace Lw:=ag Lw;have RS2:=ae.ko RS1 k2 (λx _ hx h=>h ((qa x (zrs x hx)).trans (prs x hx)));have EV2:=ae.ko EV1 k2 (λx _ hx h=>h ((qa x (zev x hx)).trans (pev x hx)));have Z2:=Z1.ko k2 (λh=>h ((qa _ zZ0).trans pOB));have R2:=R1.ko k2 (λh=>h (RV _ τm));have Iz:Below w w vb:=F'.trans (k2.below ρa (λx hx h=>h (RV x τm)));have prs2:∀x,some x=(Value.slice Yy q Yz).ownBlock->p2 x=0:=λx hx=>(q2 x (by have:=zrs x hx;omega)).trans ((qa x (zrs x hx)).trans (prs x hx));have pev2:∀x,some x=(Value.slice VZ en OC).ownBlock->p2 x=0:=λx hx=>(q2 x (by have:=zev x hx;omega)).trans ((qa x (zev x hx)).trans (pev x hx));have pOB2:p2 OB=0:=(q2 _ ρa).trans ((qa _ zZ0).trans pOB);have plow2:∀x,x<v1.heap.size->p2 x=0:=λx hx=>(q2 x ρa).trans (RV x hx);clear H1 RS1 EV1 Z1 R1 F' D1 ka k2;have zZ2:=Z2.size;have zR2:=R2.size;have hel:=hRl _ _ _ XM;rw[Um,ZL,ZL,rq,hq.out] at hel;obtain⟨p3,Vj⟩:=Nq (p2.more vb 0);have H2':=H2.more vb 0 (ZR _);rw[Vj] at H2';have q3:∀x,x<vb.heap.size->p3 x=p2 x:=λx hx=>by rw[<- Vj];exact Pt.more_lt hx
   have r3:∀x,vb.heap.size<=x->p3 x=0:=λx hx=>by rw[<- Vj];exact Pt.more_ge hx
   have p36:∀x,p3 x≠6:=λx=>by rw[<- Vj];unfold Pt.more;split;exact p62 x;omega
   clear H2;have H2:=H2';clear H2' Vj;have prs3:∀x,some x=(Value.slice Yy q Yz).ownBlock->p3 x=0:=λx hx=>(q3 x (by have:=zrs x hx;omega)).trans (prs2 x hx);have pev3:∀x,some x=(Value.slice VZ en OC).ownBlock->p3 x=0:=λx hx=>(q3 x (by have:=zev x hx;omega)).trans (pev2 x hx);have pOB3:p3 OB=0:=(q3 _ zZ2).trans pOB2;have plow3:∀x,x<v1.heap.size->p3 x=0:=λx hx=>(q3 x ρa).trans (plow2 x hx);have S2:=RS2;have E2:=EV2;have kw2:KO (λx=>w.heap.size<=x) w vb:=KO.of_below Iz;clear Iz RS2 EV2;have Iz:KO (λx=>w.heap.size<=x) vb vb:=KO.refl _ _;replace hn:=ag hn;go_upto_region 11 with (fail);refine aU vb (λv=>Below vb vb v) (λv=>KO (λx=>w.heap.size<=x) vb v/\ah v (OB) #[ζ Yy q Yz,ζ VZ en OC] 35/\ah v ((w+1)) #[Kn,Kn] 35/\Bq v w (ζ Yy q Yz) rl/\cD v w (ζ VZ en OC) y.ev/\cD v va (ζ va2 ln vc2) l2/\aD p3 v z2 ((q:Int)+1) (2*q+2) y2/\ah v vb #[ι ε a,ι ε b,ι ε c] 93) ρE (λkx=>⟨Iz.step0 kx,ρB,ρB,S2.below kx,E2.below kx,G2.below kx,H2.below kx,ρB⟩) ?_;rintro v3 ⟨ID,Z3,R3,S3,E3,G3,H3,A3⟩;replace cZ:=Z3.cell;replace fZ:=Z3.frozen;replace zZ:=Z3.size;replace cR:=R3.cell;replace fR:=R3.frozen;replace zR:=R3.size;clear Ss;replace Rr:=A3.r;have z3:=ID.size;go_upto_region 12 with (refine gP Tryz.underlying32 Ao rfl (λ_=>rfl) τG ρf ρf rfl (.tmp 42) (.tmp 44) rfl w (ζ Yy q Yz) rl (a,b,c) v3 #[ι ε a,ι ε b,ι ε c] rfl ρr ρr (S3.below ρE) ρB (by rw[Nr.out];omega) τB ?_;intro o4 v4 S4 kx Su;replace kx:=kx.of_alloc;have Z4:=Z3.ko kx (λh=>ae.ne_blk S3 Z3 ρf h);have R4:=R3.ko kx (λh=>ae.ne_blk S3 R3 ρf h);have E4:=E3.ko kx (λx _ hx e=>ae.ne_hold S3 E3 ρf x e hx);have G4:=G3.ko kx (λx _ hx e=>ae.ne_hold S3 G3 ρf x e hx);have H4:=H3.ko kx (λx e=>.inl (prs3 x e));have IC:KO (λx=>w.heap.size<=x) vb v4:=ID.trans kx (by intro y hy h;exact(ae.own_ge S3 y h.symm).1);have UT:=IC.size;replace cZ:=Z4.cell;replace fZ:=Z4.frozen;replace zZ:=Z4.size;replace cR:=R4.cell;replace fR:=R4.frozen;replace zR:=R4.size;have hl4:(rl++[((a,b,c):Int × Int × Int)]).length=q+1:=(by rw[ZL,Nr.out];rfl);obtain⟨rsa2,rsc2,rfl⟩:=ae.slice S4;rw[hl4] at S4 Su;rw[hl4]);refine gX v4 (λx=>x=OB) (λv=>ah v (OB) #[ζ rsa2 (q+1) rsc2,ζ VZ en OC] 35/\ah v ((w+1)) #[Kn,Kn] 35) ⟨ρB,ρB⟩ (λ_ kx=>θ5 (IC.trans kx σw) (S4.ko kx (λx _ hx e=>ae.ne_blk S4 Z4 ρf τA)) (E4.ko kx (λx _ hx e=>ae.ne_blk E4 Z4 ρf τA)) (G4.ko kx (λx _ hx e=>ae.ne_blk G4 Z4 ρf τA)) (H4.ko kx (λx e=>by rw[e];exact .inl pOB3))) ?_;rintro v5 ⟨Z5,R5⟩ ⟨IN,S5,E5,G5,H5⟩;replace cZ:=Z5.cell;replace fZ:=Z5.frozen;replace zZ:=Z5.size;replace cR:=R5.cell;replace fR:=R5.frozen;replace zR:=R5.size;have z5:=IN.size;have prs5:∀x,some x=(Value.slice rsa2 (q+1) rsc2).ownBlock->p3 x=0:=λx hx=>by rcases Su x hx with g|g;exact prs3 x g;exact r3 x (by first|omega|(simp at g;omega))
   clear Su;go_wp2_with (refine jx Tryz.underlying33 tN rfl (λ_=>rfl) τK ρf ρf rfl (.tmp 48) (.tmp 49) rfl w v5 (ζ VZ en OC) (ζ va2 ln vc2) y.ev l2 ρr ρr E5 (ae.rd G5 (λ_=>rfl)) ρa ρa ?_;intro o6 v6 E6 kx Su;have Z6:=Z5.ko kx (ae.ne_blk E5 Z5 ρf);have R6:=R5.ko kx (ae.ne_blk E5 R5 ρf);have S6:=ae.ko S5 kx (λx _ hx e=>ae.ne_hold E5 S5 ρf x e hx);have H6:=H5.ko kx (λx e=>.inl (pev3 x e));have IQ:=IN.trans kx (by intro y hy h;exact(ae.own_ge E5 y h.symm).1);have hl6:(y.ev++l2).length=en+ln:=(by rw[ZL,NC.out,Lw.out]);obtain⟨Ub,Uc,rfl⟩:=ae.slice E6;rw[hl6] at E6 Su;rw[hl6];replace cZ:=Z6.cell;replace fZ:=Z6.frozen;replace zZ:=Z6.size);have Tt:(dn++[x]).length=q+1:=by rw[ZL,hq.out];rfl
   have e9:((q+1:Nat):Int)=(q:Int)+1:=ρa;have z6:=IQ.size;have kZ:KO (λx=>x=OB) v6 (v6.setCell ⟨OB,1,none⟩ (ζ Ub (en+ln) Uc)):=ρK;have H7:=H6.ko kZ (λx e=>by rw[e];exact .inl pOB3);have S7:=ae.ko S6 kZ (λx _ hx e=>ae.ne_blk S6 Z6 ρf τA);have E7:=ae.ko E6 kZ (λx _ hx e=>ae.ne_blk E6 Z6 ρf τA);have R7:=R6.ko kZ ρa;rw[show 2*q+2=2*(q+1) by omega,<- e9,<- Tt] at H7;have Z7:ah (v6.setCell ⟨OB,1,none⟩ (ζ Ub (en+ln) Uc)) OB #[ζ rsa2 (q+1) rsc2,ζ Ub (en+ln) Uc] 35:=ρB;have I8:Below w w (v6.setCell ⟨OB,1,none⟩ (ζ Ub (en+ln) Uc)):=((kw2.trans IQ (λx _ e=>e)).trans kZ (λx _ e=>by (try dsimp only at e);omega)).below (ZR _) (λx hx h=>by (try dsimp only at h);omega);have pev7:∀x,some x=(Value.slice Ub (en+ln) Uc).ownBlock->p3 x=0:=λx hx=>by rcases Su x hx with g|g;exact pev3 x g;exact r3 x ρa
   have Lv:(rl++[((a,b,c):Int × Int × Int)]).length=(dn++[x]).length:=by rw[Tt,ZL,Nr.out];rfl
   rw[<- Um] at E7;go_roundw;case rel=>exact⟨dn++[x],rest,z2,p3,y2,_,_,rl++[(a,b,c)],by rw[Tt];go_num,by rw[Mu.out];simp,Jr,H7,XM,S7,Lv,E7,Z7,pOB3,prs5,pev7,p36,plow3,R7,I8⟩
   case measure=>exact ξc
theorem GV (T Lm:Int)(hT:1<=T/\T<=65536)(hL:1<=Lm/\Lm<=16384)(x0:OI)(r:List OI)(L2:List CD)(Pn:Int->Prop)(v:ϗ)(B:Nat)(w:ϖ)(G:iP w B v (x0::r))(F:mJ w B T x0 L2 Pn)(Jo:∀y0,mz T Lm L2 Pn y0->y0.Ok)(IS:(x0::r).length<=1000)(hr:∀x ∈ r,x.k≠1/\x.fine):Calls Ψ 9 #[φ #[ι ε T,ι ε Lm,v]] w λe w'=>∃rs ev y,e=ϰ (χ #[φ #[rs,ev],Kz])/\eD T Lm (mz T Lm L2 Pn) (x0::r) y/\cD w' w ev y.ev/\(∃ra rn rc,rs=ζ ra rn rc)/\Below w w w':=by
 have hB:B<=w:=by obtain⟨_,_,_,_,hB,_⟩:=G;exact hB
 refine(BT T Lm hT hL x0 r v B w G IS (λdn _ y=>eD T Lm (mz T Lm L2 Pn) dn y) (λ_=>rfl) (λdn z y h=>h.len Jo) (λdn rest x Mu p z y w1 H hR h6 cs Ui hO LY hw=>DH T Lm x0 r L2 Pn w B F Jo IS hr dn rest x Mu p z y w1 H hR h6 cs Ui hO LY hB hw)).mono ?_;rintro e w' ⟨rs,ev,y,h1,⟨z,h2⟩,h3⟩;exact⟨rs,ev,y,h1,h2,h3⟩
section
variable {op:Int} {y z:YS} {x:Int}
end
theorem yU (T Lm:Int)(L:List CD):(fw T Lm L).bys=0:=jS λ_ _=>rfl
theorem fw.inv {T Lm:Int} {L:List CD} (h:mC L):(fw T Lm L).Inv:=by
 refine⟨h,λi c hc=>?_,λi=>?_,λp j=>?_,λj p=>?_,λj=>?_⟩
 ·show (di L i)=c;unfold di;rw[show fc L i=some c from hc];rfl
 ·exact⟨λg=>Bool.noConfusion (show false=true from g),λ⟨_,_,_,_,g⟩=>ax rfl g⟩
 ·exact⟨λg=>ax g (by show j ∉ ([]:List Int);simp),λ⟨_,_,_,_,g⟩=>g.elim (λg=>Bool.noConfusion (show false=true from g)) (λg=>ax rfl g)⟩
 ·show none=if j ∈ ([]:List Int) then _ else none;rw[ZI ρp]
 ·unfold SS.okl;show none=match fc L j with|some c=>if _/\_/\([]:List PK)≠[] then _ else none|none=>none;cases fc L j with
  | none=>rfl
  | some c=>exact(ZI (λg=>g.2.2 rfl)).symm
def kt (L:List CD):Prop:=∀c ∈ L,iO c.r0 c.r1 c.r2/\iO c.l0 c.l1 c.l2/\Go.Proofs.YtfdlemkplejdnaaGreat.kd c.l0 c.l1 c.l2≠4
theorem fw.num {T Lm:Int} {L:List CD} (nd:(L.map CD.id).Nodup)(cin:kt L)(lm:1<=Lm/\Lm<=16384):(fw T Lm L).Num:=by
 refine⟨nd,cin,lm,⟨ZJ _,by show (0:Int)<=_;omega⟩,⟨ZJ _,by show (0:Int)<=_;omega⟩,λi c _=>⟨ZJ _,?_⟩,λi c _ p hp=>?_,λi c _=>CH.low_zero⟩
 ·rw[yU];exact ZJ _
 ·exact ax hp (by show p ∉ ([]:List PK);simp)
theorem fw.ok {T Lm:Int} {L:List CD} (h:mC L)(nd:(L.map CD.id).Nodup)(cin:kt L)(hT:1<=T/\T<=65536)(lm:1<=Lm/\Lm<=16384):YS.Ok ⟨fw T Lm L,0,0,[]⟩:=by refine⟨⟨fw.inv h,fw.num nd cin lm,⟨ZJ _,ZJ _,by show (0:Int)<=_;omega⟩,hT,by show (0:Int)<=0/\(0:Int)<=_;omega⟩,λ_=>?_⟩;show (0:Int)<min (dU mA) (fitT mA);have h1:(0:Int)<dU mA:=pW ρa (λj q g=>by cases g);have h2:(0:Int)<fitT mA:=tO ρa (λj q g=>by cases g);omega
theorem mC.nil:mC []:=by
 refine⟨rfl,λi c h=>?_,⟨λ_=>0,λi c h=>?_⟩,λc h=>?_,by simp,λc h=>?_⟩
 ·cases h
 ·cases h
 ·cases h
 ·cases h
theorem kt.nil:kt []:=by intro c h;cases h
structure eY (n:Nat) (L:List CD):Prop where
 len:L.length<=n
 nd:(L.map CD.id).Nodup
 wc:∀c ∈ L,WC c=0/\CN c
 par:∀i c,fc L i=some c->c.par=0\/∃d,fc L c.par=some d/\d.lf=false/\(dz c=true->dz d=true)
 rk:∃rk:Int->Nat,∀i c,fc L i=some c->rk i<=n/\(c.par≠0->rk c.par<rk i)
theorem eY.nil:eY 0 []:=by
 refine⟨by simp,by simp,λc h=>?_,λi c h=>?_,λ_=>0,λi c h=>?_⟩
 ·cases h
 ·cases h
 ·cases h
theorem WC.facts {c:CD} (h:WC c=0):(1<=c.id/\c.id<=65536)/\(0<=c.par/\c.par<=65536)/\c.id≠c.par/\kd c.r0 c.r1 c.r2≠0/\kd c.l0 c.l1 c.l2≠0/\kd c.u0 c.u1 c.u2≠0/\kd c.l0 c.l1 c.l2≠4/\kd c.u0 c.u1 c.u2≠4/\(c.lf=true->(1<=c.pk/\c.pk<=64)/\(1<=c.by_/\c.by_<=1048576))/\(c.lf=false->kd c.r0 c.r1 c.r2=1):=by
 unfold WC wr at h;split at h
 ·omega
 ·split at h
  ·omega
  ·split at h
   ·omega
   ·refine⟨by omega,by omega,by omega,by omega,by omega,by omega,by omega,by omega,λhl=>?_,λhl=>?_⟩
    ·rw[ZP hl] at h;split at h
     ·omega
     ·omega
    ·rw[ZI (by rw[hl];simp)] at h;split at h
     ·omega
     ·omega
theorem lR {L:List CD} {i:Int} {c:CD} (h:fc L i=some c)(hi:i≠0):kh L i=dz c:=by unfold kh;rw[h];simp[hi,dz]
section
variable {n:Nat} {L M:List CD} {k:Int} {x:CD}
theorem eY.nz (h:eY n L):fc L 0=none:=by
 cases hc:fc L 0 with
 | none=>rfl
 | some c=>obtain⟨h1,h2⟩:=cG hc;have:=(WC.facts (h.wc c h1).1).1;omega
theorem eY.step (h:eY n L)(hx:CN x)(s:kS k x L M):eY (n+1) M:=by
 obtain⟨rk,hr⟩:=h.rk;rcases s with ⟨rfl,⟨hw,h0,h64,hp,hs⟩,rfl⟩|⟨rfl,⟨d0,h0⟩,hp,rfl⟩|⟨rfl,⟨hw,⟨d0,h0,hp,hl⟩,hs,Ja⟩,rfl⟩
 ·have hf:∀i,fc (putS x false L) i=if i=x.id then some x else fc L i:=λi=>iE x i L false;have F:=WC.facts hw;have hm:∀c ∈ putS x false L,c=x\/c ∈ L:=λc hc=>ηF
  refine⟨?_,gH x false h.nd,λc hc=>?_,λi c hc=>?_,λi=>if i=x.id then n+1 else rk i,λi c hc=>?_⟩
  ·have:=gg x L false;have:=h.len;simp at*;omega
  ·rcases hm c hc with e|e
   ·rw[e];exact⟨hw,hx⟩
   ·exact h.wc c e
  ·rw[hf] at hc;split at hc
   ·cases hc
    rcases hp with e|⟨d,hd,KZ⟩
    ·exact .inl e
    ·refine .inr ⟨d,by rw[hf,ZI κa];exact hd,KZ,λg=>?_⟩;have hpz:x.par≠0:=λe=>by rw[e,h.nz] at hd;cases hd
     rw[<- lR hd hpz];exact hs g
   ·rcases h.par i c hc with e|⟨d,hd,KZ,hds⟩
    ·exact .inl e
    ·exact .inr ⟨d,by rw[hf,ZI κa];exact hd,KZ,hds⟩
  ·rw[hf] at hc;simp only[];by_cases e:i=x.id
   ·rw[ZP e] at hc;cases hc;rw[ZP e];refine⟨ZR _,λhz=>?_⟩;rcases hp with g|⟨d,hd,KZ⟩
    ·exact ax g hz
    ·rw[ZI κa];have:=(hr _ _ hd).1;omega
   ·rw[ZI e] at hc;rw[ZI e];have:=hr i c hc;refine⟨by omega,λhz=>?_⟩;rcases h.par i c hc with g|⟨d,hd,_⟩
    ·exact ax g hz
    ·rw[ZI κa];exact this.2 hz
 ·have hf:∀i,fc (L.filter (λc:CD=>c.id !=x.id)) i=if i=x.id then none else fc L i:=λi=>iD ρp i L;have ME:∀i c,fc (L.filter (λc:CD=>c.id !=x.id)) i=some c->fc L i=some c:=λi c hc=>by
   rw[hf] at hc;split at hc
   ·cases hc
   ·exact hc
  refine⟨ZK (ZH _ _) (by have:=h.len;omega),gC _ h.nd,λc hc=>h.wc c (List.mem_filter.1 hc).1,λi c hc=>?_,rk,λi c hc=>?_⟩
  ·have hc:=ME i c hc;rcases h.par i c hc with e|⟨d,hd,KZ,hds⟩
   ·exact .inl e
   ·exact .inr ⟨d,by rw[hf,ZI (hp c (cG hc).1)];exact hd,KZ,hds⟩
  ·have:=hr i c (ME i c hc);exact⟨by omega,this.2⟩
 ·have hf:∀i,fc (putS x false L) i=if i=x.id then some x else fc L i:=λi=>iE x i L false;have F:=WC.facts hw;have hm:∀c ∈ putS x false L,c=x\/c ∈ L:=λc hc=>ηF
  have hd0:=h.par _ _ h0;refine⟨?_,gH x false h.nd,λc hc=>?_,λi c hc=>?_,rk,λi c hc=>?_⟩
  ·have:=gg x L false;have:=h.len;simp at*;omega
  ·rcases hm c hc with e|e
   ·rw[e];exact⟨hw,hx⟩
   ·exact h.wc c e
  ·rw[hf] at hc;split at hc
   ·cases hc
    rcases hd0 with e|⟨d,hd,KZ,_⟩
    ·exact .inl (hp ▸ e)
    ·rw[hp] at hd;refine .inr ⟨d,by rw[hf,ZI (λe=>F.2.2.1 e.symm)];exact hd,KZ,λg=>?_⟩;have hpz:x.par≠0:=λe=>by rw[e,h.nz] at hd;cases hd
     rw[<- lR hd hpz];exact hs g
   ·rcases h.par i c hc with e|⟨d,hd,KZ,hds⟩
    ·exact .inl e
    ·by_cases e:c.par=x.id
     ·rw[e,h0] at hd;cases hd;refine .inr ⟨x,by rw[hf,ZP e],by rw[<- hl];exact KZ,λg=>?_⟩;cases Tv:dz x with
      | true=>rfl
      | false=>obtain⟨hcL,MN⟩:=cG hc;have h1:=Ja Tv c hcL e;have h2:=(WC.facts (h.wc c hcL).1).1;rw[lR (iF h.nd c hcL) ρa,g] at h1;exact h1.symm
     ·exact .inr ⟨d,by rw[hf,ZI e];exact hd,KZ,hds⟩
  ·rw[hf] at hc;split at hc
   ·rename_i e;cases hc;have:=hr _ _ h0;rw[e];exact⟨by omega,λhz=>by rw[<- hp];exact this.2 (by rw[hp];exact hz)⟩
   ·have:=hr i c hc;exact⟨by omega,this.2⟩
theorem eY.lok (h:eY n L)(hn:n<=64):mC L:=by obtain⟨rk,hr⟩:=h.rk;exact⟨h.nz,h.par,⟨rk,λi c hc=>⟨by have:=(hr i c hc).1;omega,(hr i c hc).2⟩⟩,λc hc=>by have F:=WC.facts (h.wc c hc).1;exact⟨F.2.2.2.1,⟨F.2.2.2.2.1,F.2.2.2.2.2.2.1⟩,F.2.2.2.2.2.1⟩,by have:=h.len;omega,iF h.nd⟩
structure fK (L2 L:List CD):Prop where
 fc:∀i,fc L2 i=fc L i
 nd:(L2.map CD.id).Nodup
theorem fK.nil:fK [] []:=⟨λ_=>rfl,by simp⟩
theorem fK.step {L2:List CD} (h:fK L2 L)(s:kS k x L M):fK (eJ k x L2) M:=by
 rcases s with ⟨rfl,_,rfl⟩|⟨rfl,_,_,rfl⟩|⟨rfl,_,rfl⟩
 ·exact ηI
 ·exact⟨λi=>by unfold eJ;rw[ZP rfl,zV,iD (id:=x.id) ρp,h.fc],by unfold eJ;rw[ZP rfl];exact gC _ h.nd⟩
 ·exact ηI
theorem fK.up {L2:List CD} (h:fK L2 L)(R:eY n L)(id:Int):∃xs,bQ L2 id xs/\xs.length<=n+1:=by
 obtain⟨rk,hr⟩:=R.rk;cases hc:Go.Proofs.YtfdlemkplejdnaaGreat.fc L2 id with
 | none=>exact⟨[],hc,by simp⟩
 | some c=>
  refine nD (rk:=rk) (λj d hd=>?_) n id ?_
  ·rw[h.fc] at hd;by_cases e:d.par=0
   ·left;rw[e,h.fc];exact R.nz
   ·right;exact(hr j d hd).2 e
  ·rw[h.fc] at hc;exact(hr id c hc).1
end
theorem fK.steps:∀{ch:List (Int × CD)} {n:Nat} {L L2 M:List CD},fK L2 L->eY n L->n+ch.length<=64->(∀c ∈ ch,CN c.2)->dq ch L M->vX ch L2/\fK (ch.foldl (λL c=>eJ c.1 c.2 L) L2) M/\eY (n+ch.length) M
 | [],n,L,L2,M,h,R,hn,hc,s=>by cases s;exact⟨trivial,h,R⟩
 | c::r,n,L,L2,M,h,R,hn,hc,⟨K,s1,s2⟩=>by have hn:n+(r.length+1)<=64:=hn;obtain⟨g1,g2,g3⟩:=(h.step s1).steps (R.step (hc c ρp) s1) ρa κu s2;obtain⟨xs,u1,u2⟩:=h.up R c.2.par;refine⟨⟨λ_=>⟨xs,u1,by omega⟩,g1⟩,g2,?_⟩;show eY (n+(r.length+1)) M;rw[show n+(r.length+1)=n+1+r.length by omega];exact g3
theorem fK.lok {n:Nat} {L L2:List CD} (h:fK L2 L)(R:eY n L)(hn:n<=64)(hl:L2.length<=64):mC L2/\kt L2/\(∀c ∈ L2,WC c=0/\CN c):=by
 have K:=R.lok hn;have hm:∀c ∈ L2,c ∈ L:=λc hc=>by have:=iF h.nd c hc;rw[h.fc] at this;exact(cG this).1
 obtain⟨rk,hr⟩:=K.rk;refine⟨⟨by rw[h.fc];exact K.nz,λi c hc=>?_,⟨rk,λi c hc=>?_⟩,λc hc=>K.cls c (hm c hc),hl,iF h.nd⟩,λc hc=>?_,λc hc=>R.wc c (hm c hc)⟩
 ·rw[h.fc] at hc;rw[h.fc];exact K.par i c hc
 ·rw[h.fc] at hc;exact hr i c hc
 ·obtain⟨hw,hn⟩:=R.wc c (hm c hc);have F:=WC.facts hw;exact⟨iO.of hn.1.1 hn.1.2.1 hn.1.2.2 F.2.2.2.1,iO.of hn.2.1.1 hn.2.1.2.1 hn.2.1.2.2 F.2.2.2.2.1,F.2.2.2.2.2.2.1⟩
def FS (op:Int)(x:OI)(y:YS)(z z':SA)(y':YS):Prop:=(x.k=2->∃a,yM x.rl a y z' y')/\(x.k=3->BX op x.pk y z z' y')/\(x.k=4->BZ op x.tk y z z' y')
inductive iV (T Lm:Int) (L2:List CD) (Pn:Int->Prop):List OI->SA->YS->Prop
 | nil (z:SA):iV T Lm L2 Pn [] z ⟨fw T Lm [],0,0,[]⟩
 | one (x:OI) (z:SA) (y:YS):mz T Lm L2 Pn y->iV T Lm L2 Pn [x] z y
 | snoc {dn:List OI} {x:OI} {z:SA} {y:YS} {z':SA} {y':YS}:dn≠[]->iV T Lm L2 Pn dn z y->FS (dn.length:Nat) x y z z' y'->iV T Lm L2 Pn (dn++[x]) z' y'
theorem iV.back {T Lm:Int} {L2:List CD} {Pn:Int->Prop} {l:List OI} {z':SA} {y':YS} (h:iV T Lm L2 Pn l z' y'):∀dn x,l=dn++[x]->dn≠[]->∃z y,iV T Lm L2 Pn dn z y/\FS (dn.length:Nat) x y z z' y':=by
 cases h with
 | nil=>intro dn x e;cases dn<;>cases e
 | one x0 z y hs=>
  intro dn x e hd;cases dn with
  | nil=>exact ax rfl hd
  | cons a r=>have:=ZG List.length e;simp at this
 | @snoc dn0 x0 z y _ _ hd0 h1 h2=>
  intro dn x e hd;obtain⟨rfl,h⟩:=List.append_inj' e rfl;cases h
  exact⟨z,y,h1,h2⟩
theorem GS (T Lm:Int)(x0:OI)(r:List OI)(L2:List CD)(Pn:Int->Prop)(w0:ϖ)(B:Nat)(F:mJ w0 B T x0 L2 Pn)(Jo:∀y0,mz T Lm L2 Pn y0->y0.Ok)(IS:(x0::r).length<=1000)(hr:∀x ∈ r,x.k≠1/\x.fine)
  (dn rest:List OI) (x:OI) (Mu:x0::r=dn++x::rest) (p:Pt) (z:SA) (y:YS) (w:ϖ) (H:aD p w z dn.length (2*dn.length) y) (hR:eD T Lm (mz T Lm L2 Pn) dn y) (hX:iV T Lm L2 Pn dn z y) (h6:∀x,p x≠6) (cs:List ϗ) (Ui:jd w0 B x cs) (hO:jd w B x cs) (LY:∀x,x<w0.heap.size->p x=0) (hB:B<=w0) (hw:Below w0 w0 w):Calls Ψ 30 #[pt z.Y,φ cs.toArray] w λe w'=>∃a b c v z' p' y' l',e=ϰ (χ #[φ #[ι ε a,ι ε b,ι ε c],v])/\z'.Y=z.Y/\(eD T Lm (mz T Lm L2 Pn) (dn++[x]) y'/\iV T Lm L2 Pn (dn++[x]) z' y')/\(∀x,x<w.heap.size->p' x=p x)/\aD p' w' z' (dn.length+1) (2*dn.length+2) y'/\cD w' w v l'/\(∀x,some x=v.ownBlock->p' x=0)/\(∀x,p' x≠6)/\y'.ev=y.ev++l'/\KO (λx=>p x≠0) w w':=by
 have Lw:dn.length<=1000:=by have:=ZG List.length Mu;simp at this IS;omega
 have Vk:∀x,x<w.heap.size->p x≠6:=λx _=>h6 x;cases dn with
 | nil=>
  have hx:x0=x:=by simpa using (List.cons.inj Mu).1
  subst hx;have hy:y=⟨fw T Lm [],0,0,[]⟩:=hR;subst hy;obtain⟨cv,rv,rfl,g1,g2⟩:=Ui;obtain⟨a,IM,Ve,_⟩:=g1.slice;have Vh:=F.k;obtain⟨xk,xch,xrl,xpk,xtk⟩:=x0;simp only at Vh;subst Vh;refine δQ ?_;rintro e w' ⟨n,i,v,z',p',s',rfl,e1,hc,e2,H',G',e3,e4,k'⟩;have JY:mz T Lm L2 Pn ⟨s',0,0,[]⟩:=ηT
  exact⟨n,i,0,v,z',p',⟨s',0,0,[]⟩,[],rfl,e1,⟨⟨⟨s',0,0,[]⟩,JY,.nil⟩,.one _ z' _ JY⟩,e2,H'.mono ρa,G',e3,e4,rfl,k'⟩
 | cons x1 dn=>
  obtain⟨JT,Nd⟩:=List.cons.inj Mu;subst JT;obtain⟨hk,hf⟩:=hr x (by rw[Nd];simp);have hy:y.Ok:=by obtain⟨y0,h1,h2⟩:=hR;exact(h2.ok (Jo y0 h1)).1
  obtain⟨cv,rv,rfl,g1,g2⟩:=hO;have fin:∀{w':ϖ} {a b c:Int} {v:ϗ} {z':SA} {p':Pt} {y':YS} {l':List EV},z'.Y=z.Y->jX ((dn.length:Int)+1) y y'->(∀x,x<w.heap.size->p' x=p x)->aD p' w' z' (((x0::dn).length:Int)+1) (2*(x0::dn).length+2) y'->cD w' w v l'->(∀x,some x=v.ownBlock->p' x=0)->(∀x,p' x≠6)->y'.ev=y.ev++l'->KO (λx=>p x≠0) w w'->y'.clk=x.clk y.clk->FS ((x0::dn).length:Nat) x y z z' y'->
    ∃a' b' c' v' z' p' y' l',(Ending.returned (χ #[φ #[ι ε a,ι ε b,ι ε c],v])=ϰ (χ #[φ #[ι ε a',ι ε b',ι ε c'],v']))/\z'.Y=z.Y/\(eD T Lm (mz T Lm L2 Pn) (x0::dn++[x]) y'/\iV T Lm L2 Pn (x0::dn++[x]) z' y')/\(∀x,x<w.heap.size->p' x=p x)/\aD p' w' z' (((x0::dn).length:Int)+1) (2*(x0::dn).length+2) y'/\cD w' w v' l'/\(∀x,some x=v'.ownBlock->p' x=0)/\(∀x,p' x≠6)/\y'.ev=y.ev++l'/\KO (λx=>p x≠0) w w':=
   λe1 e2 e3 e4 e5 e6 e7 e8 e9 Ph e11=>⟨_,_,_,_,_,_,_,_,rfl,e1,⟨hR.snoc hk e2 Ph,.snoc ρp hX e11⟩,e3,e4,e5,e6,e7,e8,e9⟩
  have Po:0<=((x0::dn).length:Int)/\((x0::dn).length:Int)<=100000:=ρa;have JY:(((x0::dn).length:Nat):Int)=(dn.length:Int)+1:=ρp;by_cases k2:x.k=2
  ·refine(show Calls _ _ _ _ _ from by
    have:=FK p z _ _ y cv rv x.pk x.tk x.rl B w H hy Vk Po ρa g2 hf.rl (λx hx=>LY x ρa);rw[<- k2] at this;exact this).mono ?_
   rintro e w' ⟨a,b,c,v,z',p',y',l',rfl,e1,e2,e3,e4,e5,e6,e7,e8,_,e9,Ph,hD⟩;exact fin e1 (JY ▸ e2) e3 e4 e5 e6 e7 e8 e9 τI (⟨λ_=>⟨_,hD⟩,λh=>by omega,λh=>by omega⟩)
  by_cases k3:x.k=3
  ·refine(show Calls _ _ _ _ _ from by
    have:=FL p z _ _ y cv rv x.pk x.tk w H hy Vk Po ρa;rw[<- k3] at this;exact this).mono ?_
   rintro e w' ⟨a,b,c,v,z',p',y',l',rfl,e1,e2,e3,e4,e5,e6,e7,e8,_,e9,Ph,hD⟩;exact fin e1 (JY ▸ e2) e3 e4 e5 e6 e7 e8 e9 τI (⟨λh=>by omega,λ_=>hD,λh=>by omega⟩)
  by_cases k4:x.k=4
  ·refine(show Calls _ _ _ _ _ from by
    have:=FM p z _ _ y cv rv x.pk x.tk w H hy Vk Po ρa hf.tk;rw[<- k4] at this;exact this).mono ?_
   rintro e w' ⟨a,b,c,v,z',p',y',l',rfl,e1,e2,e3,e4,e5,e6,e7,e8,_,e9,Ph,hD⟩;exact fin e1 (JY ▸ e2) e3 e4 e5 e6 e7 e8 e9 (by rw[Ph];unfold OI.clk;rw[ZP k4]) (⟨λh=>by omega,λh=>by omega,λ_=>hD⟩)
  ·refine(FJ p z _ _ y x.k cv rv x.pk x.tk w H hy Vk Po ρa ⟨hk,k2,k3,k4⟩).mono ?_;rintro e w' ⟨a,b,c,v,z',p',y',l',rfl,e1,e2,e3,e4,e5,e6,e7,e8,_,e9,Ph,hD⟩;exact fin e1 (JY ▸ e2) e3 e4 e5 e6 e7 e8 e9 (by rw[Ph];unfold OI.clk;rw[ZI k4]) (⟨λh=>ax h k2,λh=>ax h k3,λh=>ax h k4⟩)
theorem FO (T Lm:Int)(hT:1<=T/\T<=65536)(hL:1<=Lm/\Lm<=16384)(x0:OI)(r:List OI)(L2:List CD)(Pn:Int->Prop)(v:ϗ)(B:Nat)(w:ϖ)(G:iP w B v (x0::r))(F:mJ w B T x0 L2 Pn)(Jo:∀y0,mz T Lm L2 Pn y0->y0.Ok)(IS:(x0::r).length<=1000)(hr:∀x ∈ r,x.k≠1/\x.fine):Calls Ψ 9 #[φ #[ι ε T,ι ε Lm,v]] w λe w'=>∃rs ev z y,e=ϰ (χ #[φ #[rs,ev],Kz])/\iV T Lm L2 Pn (x0::r) z y/\cD w' w ev y.ev/\(∃ra rn rc,rs=ζ ra rn rc)/\Below w w w':=by
 have hB:B<=w:=by obtain⟨_,_,_,_,hB,_⟩:=G;exact hB
 refine(BT T Lm hT hL x0 r v B w G IS (λdn z y=>eD T Lm (mz T Lm L2 Pn) dn y/\iV T Lm L2 Pn dn z y) (λz=>⟨rfl,.nil z⟩) (λdn z y h=>h.1.len Jo) (λdn rest x Mu p z y w1 H hR h6 cs Ui hO LY hw=>GS T Lm x0 r L2 Pn w B F Jo IS hr dn rest x Mu p z y w1 H hR.1 hR.2 h6 cs Ui hO LY hB hw)).mono ?_;rintro e w' ⟨rs,ev,y,h1,⟨z,h2⟩,h3⟩;exact⟨rs,ev,z,y,h1,h2.2,h3⟩
def SS.Z (s:SS):Prop:=∀j,(s.e j).cp=CH.zero/\Go.Proofs.YtfdlemkplejdnaaGreat.kd (s.e j).c.u0 (s.e j).c.u1 (s.e j).c.u2<2
section
variable {s t:SS}
theorem SS.Z.like (h:s.Z)(e:∀j,(t.e j).cp=(s.e j).cp/\(t.e j).c=(s.e j).c):t.Z:=λj=>by rw[(e j).1,(e j).2];exact h j
theorem SS.Z.setE (h:s.Z) {i:Int} {x:EN} (hx:x.cp=CH.zero/\x.c=(s.e i).c):(s.setE i x).Z:=λj=>by
 unfold SS.setE aw;simp only[];by_cases hj:j=i
 ·subst hj;rw[ZP rfl,hx.1,hx.2];exact⟨rfl,(h j).2⟩
 ·rw[ZI hj];exact h j
theorem SS.Z.dues (h:s.Z)(i:Int)(l:LF):(s.duesTo i l).Z:=by have h1:=h.setE (i:=i) (x:={s.e i with du:=l}) ⟨(h i).1,rfl⟩;exact h1.like λj=>⟨rfl,rfl⟩
theorem SS.Z.wake1 (h:s.Z)(now i:Int):(s.wake1 now i).Z:=by refine h.setE ⟨?_,rfl⟩;show CH.capped _ _ _ _ _ _=_;unfold CH.capped;rw[ZP (h i).2]
theorem SS.Z.wakes:∀{s:SS},s.Z->∀(now:Int)(xs:List Int),(xs.foldl (SS.wake1 now) s).Z
 | _,h,_,[]=>h
 | _,h,now,x::r=>SS.Z.wakes (h.wake1 now x) now r
theorem SS.Z.wakeS (h:s.Z)(now i:Int)(up:List Int):(s.wakeS now i up).Z:=by unfold SS.wakeS;have h1:({s with A:=⟨aw s.A.on i true,(aX s.A.K up).2⟩}:SS).Z:=h;refine(h1.wakes now (aX s.A.K up).1).like λj=>?_;rw[(cI _ up).2.1];exact⟨rfl,rfl⟩
theorem SS.Z.wake (h:s.Z)(now i hh:Int)(up:List Int):(s.wake now i hh up).Z:=by
 unfold SS.wake;dsimp only;have h1:(if SS.real (s.e i).c then s.duesTo i (((s.e i).du.woke (s.e i).c.r0 (s.e i).c.r1 (s.e i).c.r2 now).headed hh) else s).Z:=by
  split
  ·exact h.dues _ _
  ·exact h
 by_cases g:dz (s.e i).c=true
 ·rw[ZP g];exact h1.wakeS now i up
 ·rw[ZI g];exact h1
theorem SS.Z.put (h:s.Z) {now i n:Int} {p:PK} {xs:List Int} {s':SS} (e:s.put now i p xs=(n,s')):s'.Z:=by
 unfold SS.put at e;split at e
 ·cases e;exact h
 cases hc:fc s.L i with
 | none=>simp only[hc] at e;cases e;exact h
 | some c=>
  simp only[hc] at e;by_cases g1:c.lf=false
  ·rw[ZP g1] at e;cases e;exact h
  rw[ZI g1] at e;split at e
  ·cases e;exact h
  split at e
  ·cases e;exact h
  split at e
  ·cases e;exact h
  have h0:({s with clk:=now}:SS).Z:=h;have h1:=h0.setE (i:=i) (x:={s.e i with q:=(s.e i).q++[p]}) ⟨(h i).1,rfl⟩;have h2:({(({s with clk:=now}:SS).setE i {s.e i with q:=(s.e i).q++[p]}) with acc:=s.acc+p.len}:SS).Z:=h1.like λj=>⟨rfl,rfl⟩;split at e
  ·cases e;exact h2.wake _ _ _ _
  ·cases e;exact h2
theorem SS.Z.took (h:s.Z) {now i:Int} {b:Bool} {xs:List Int} {p:PK} {r:List PK} (T:kT s t now i b xs p r):t.Z:=λj=>by
 rw[T.cc j,T.cp j];refine⟨?_,(h j).2⟩;split
 ·rw[(h j).1];rfl
 ·exact(h j).1
theorem xh {now i:Int} {p:PK} {xs:List Int} {c:CD} (h1:s.clk<=now/\now<=4611686018427387904)(hc:fc s.L i=some c)(hl:c.lf=true)(hp:1<=p.len/\p.len<=s.Lm)(ha:s.acc+p.len<=1099511627776)(hb:aE (s.e i).q+p.len<=c.by_)(hq:(s.e i).q.length≠c.pk.toNat):(s.put now i p xs).1=0:=by unfold SS.put;rw[ZI (by simp[SS.told,h1])];simp only[hc];rw[ZI (by simp[hl]),ZI ρa,ZI ρa,ZI ρa];split<;>rfl
end
def cA:CD:=⟨1,0,true,0,0,0,65536,0,65536,0,0,0,3,300⟩
def pA:PK:=⟨7,100,0,0,0,0⟩
theorem nY:fc [cA] 1=some cA:=rfl
theorem pG {i:Int} {c:CD} (h:fc [cA] i=some c):i=1/\c=cA:=by obtain⟨h1,h2⟩:=cG h;rw[ZS] at h1;subst h1;exact⟨h2.symm,rfl⟩
theorem xQ:dz cA=true:=by decide
theorem mC.cA:mC [cA]:=by
 refine⟨rfl,λi c h=>?_,⟨λ_=>0,λi c h=>?_⟩,λc h=>?_,by decide,λc h=>?_⟩
 ·obtain⟨_,rfl⟩:=pG h;exact .inl rfl
 ·obtain⟨_,rfl⟩:=pG h;exact⟨by show 0<=900;omega,λg=>ax rfl g⟩
 ·rw[ZS] at h;subst h;decide
 ·rw[ZS] at h;subst h;exact nY
theorem kt.cA:kt [cA]:=by intro c h;rw[ZS] at h;subst h;refine⟨?_,?_,by decide⟩<;>(unfold iO;decide)
theorem Bg {xs:List Int} (h:bQ [cA] 1 xs):xs=[1]:=iz h ⟨Go.Proofs.YtfdlemkplejdnaaGreat.cA,nY,rfl,by show fc _ _=none;rfl⟩
structure AL (s:SS) (q:List PK):Prop where
 L:s.L=[cA]
 T:s.T=1
 Lm:s.Lm=100
 Z:s.Z
 q:(s.e 1).q=q
section
variable {s:SS} {q:List PK}
theorem AL.kd1 (h:AL s q)(I:s.Inv)(hq:q≠[]):s.kd 0 1=some ((s.e 1).sh.t,0)/\∀j,j≠1->s.kd 0 j=none:=by
 have hc:fc s.L 1=some cA:=by rw[h.L];exact nY
 have Le:s.A.on 1=true:=(I.on 1).2 ⟨cA,hc,rfl,xQ,by rw[h.q];exact hq⟩;have hk:1 ∈ s.A.K 0:=(I.kk 0 1).2 ⟨cA,hc,rfl,xQ,.inl Le⟩;have hf:s.fit 1=0:=by unfold SS.fit;rw[ZP (.inl (by rw[I.ec 1 cA hc];rfl)),(h.Z 1).1];rfl
 refine⟨by rw[I.kd 1 0,ZP hk,hf],λj hj=>?_⟩;rw[I.kd j 0,ZI (λg=>?_)];obtain⟨d,hd,_⟩:=(I.kk 0 j).1 g;rw[h.L] at hd;exact hj (pG hd).1
theorem AL.fitT (h:AL s q)(I:s.Inv)(hq:q≠[]):fitT (s.kd 0)=0:=by
 obtain⟨h1,h2⟩:=h.kd1 I hq;refine n7 ⟨.inr ⟨1,_,h1,rfl⟩,by omega,λj x hx=>?_⟩;by_cases hj:j=1
 ·subst hj;rw[h1] at hx;cases hx;exact ZJ _
 ·rw[h2 j hj] at hx;cases hx
end
theorem AL.pick {op:Int} {y z:YS} {p:PK} {r:List PK} (h:AL y.s (p::r))(O:y.Ok0)(ht:y.til<=y.clk)(hp:eX op y z):AL z.s r/\z.s.acc=y.s.acc/\z.Ok/\z.til=y.clk+p.len/\z.clk=y.clk/\∃x,z.ev=y.ev++[⟨op,false,x,y.clk,y.clk+p.len,1,p⟩]:=by
 have hz:=hp.ok O;cases hp with
 | busy hb=>omega
 | idle hb Jq=>have:=O.told.1.idle O.clk.2.2 Jq;have h0:=h.fitT O.inv ρp;have h0:Go.Proofs.YtfdlemkplejdnaaGreat.fitT (({y.s with clk:=y.clk}:SS).kd 0)=0:=h0;rw[h0] at this;have:=O.clk;omega
 | @pick i x c xs p' r' hb Jq hc hq hu=>
  have Tq:=hc;rw[h.L] at Tq hu;obtain⟨rfl,rfl⟩:=pG Tq;rw[h.q] at hq;cases hq
  obtain rfl:=Bg hu;obtain⟨_,_,T,_⟩:=O.pick Jq hc h.q (by rw[h.L];exact hu);refine⟨⟨T.L.trans h.L,T.T.trans h.T,T.Lm.trans h.Lm,h.Z.took T,by rw[T.q];rfl⟩,T.acc,hz.1,?_,rfl,x,?_⟩
  ·show y.clk+y.s.T*p.len=_;rw[h.T,Int.one_mul]
  ·show y.ev++[⟨_,_,_,_,y.clk+y.s.T*p.len,_,_⟩]=_;rw[h.T,Int.one_mul]
theorem AL.put {op:Int} {y y':YS} {q:List PK} (h:AL y.s q)(hy:y.Ok)(ha:y.s.acc<=1000)(hq:q=[]\/q=[pA])(hp:pp op y 1 pA y'):∃s',AL s' (q++[pA])/\s'.acc=y.s.acc+100/\YS.Ok0 {y with s:=s',ev:=y.ev++[⟨op,true,false,y.clk,0,1,pA⟩]}/\eX op {y with s:=s',ev:=y.ev++[⟨op,true,false,y.clk,0,1,pA⟩]} y':=by
 obtain⟨xs,n,s',hP,e,hc⟩:=hp;have hf:fc y.s.L 1=some cA:=by rw[h.L];exact nY
 have P:=hP cA hf;have h0:n=0:=by have:=xh (s:=y.s) (now:=y.clk) (i:=1) (p:=pA) (xs:=xs) (c:=cA) ⟨hy.clk.1,hy.clk.2.2⟩ hf rfl ⟨by decide,by rw[h.Lm];decide⟩ (by show y.s.acc+100<=_;omega) (by rw[h.q];rcases hq with rfl|rfl<;>decide) (by rw[h.q];rcases hq with rfl|rfl<;>decide);rw[e] at this;exact this
 subst h0;rcases hc with ⟨g,_⟩|⟨_,hpump⟩
 ·exact ax rfl g
 have I:=hy.inv.put hP e;rcases cf hy.inv.ec (ZD.1 P.nd).2 e with ⟨g,_⟩|⟨_,c,F⟩
 ·exact ax rfl g
 have N:=F.num hy.num hy.inv (λy hy=>eA P.up y hy);refine⟨s',⟨F.L.trans h.L,F.T.trans h.T,F.Lm.trans h.Lm,h.Z.put e,by rw[F.q,ZP rfl,h.q]⟩,F.acc,⟨I,N,⟨by show SS.clk _<=_;rw[F.clk];exact ZJ _,hy.clk.2⟩,by show 1<=SS.T _/\SS.T _<=_;rw[F.T];exact hy.tt,hy.til⟩,hpump⟩
theorem AL.rounds {op:Int} {y y':YS} (h:AL y.s [pA])(hy:y.Ok)(hc:y.clk=0)(ht:y.til=100)(hr:bP op 150 y y'):∃x,y'.ev=y.ev++[⟨op,false,x,100,200,1,pA⟩]:=by
 have hn:y.next=100:=by have h0:=h.fitT hy.inv ρp;unfold YS.next YS.due;rw[h0,hc,ht];omega
 cases hr with
 | done g=>rw[hn] at g;omega
 | @next _ z _ _ hp hr=>
  have O:=hy.at_next (stop:=150) ρa (by rw[hn];omega);rw[hn] at hp O;obtain⟨_,_,_,h3,h4,x,h5⟩:=AL.pick (y:={y with clk:=100}) h O (by show y.til<=100;omega) hp;have h3:z.til=100+100:=h3;have h4:z.clk=100:=h4;refine⟨x,?_⟩;have hz:150<z.next:=by unfold YS.next;omega
  cases hr with
  | done _=>exact h5
  | next g=>omega
def rA:RL:=⟨⟨0,0,0,0⟩,⟨0,0,0,0⟩,1⟩
def CR:List OI:=[⟨1,[(1,cA)],[],PK.zero,0⟩,⟨2,[],[rA],PK.zero,0⟩,⟨3,[],[],pA,0⟩,⟨3,[],[],pA,0⟩,⟨4,[],[],PK.zero,150⟩]
theorem iV.first {T Lm:Int} {L2:List CD} {Pn:Int->Prop} {x:OI} {z:SA} {y:YS} (h:iV T Lm L2 Pn [x] z y):mz T Lm L2 Pn y:=by
 generalize hl:[x]=l at h;cases h with
 | nil=>cases hl
 | one _ _ _ hs=>exact hs
 | snoc hd h1 h2=>exfalso;have h3:=ZG List.length hl;rw[ZL] at h3;exact hd (List.eq_nil_of_length_eq_zero (by simpa using h3))
theorem nP {z:SA} {y:YS} (h:iV 1 100 [cA] (·=0) CR z y):∃a b,y.ev=[⟨2,true,false,0,0,1,pA⟩,⟨2,false,a,0,100,1,pA⟩,⟨3,true,false,0,0,1,pA⟩,⟨4,false,b,100,200,1,pA⟩]:=by
 obtain⟨z4,y4,h,_,_,d5⟩:=h.back [⟨1,[(1,cA)],[],PK.zero,0⟩,⟨2,[],[rA],PK.zero,0⟩,⟨3,[],[],pA,0⟩,⟨3,[],[],pA,0⟩] ⟨4,[],[],PK.zero,150⟩ rfl ρp;obtain⟨z3,y3,h,_,d4,_⟩:=h.back [⟨1,[(1,cA)],[],PK.zero,0⟩,⟨2,[],[rA],PK.zero,0⟩,⟨3,[],[],pA,0⟩] ⟨3,[],[],pA,0⟩ rfl ρp;obtain⟨z2,y2,h,_,d3,_⟩:=h.back [⟨1,[(1,cA)],[],PK.zero,0⟩,⟨2,[],[rA],PK.zero,0⟩] ⟨3,[],[],pA,0⟩ rfl ρp;obtain⟨z1,y1,h,d2,_,_⟩:=h.back [⟨1,[(1,cA)],[],PK.zero,0⟩] ⟨2,[],[rA],PK.zero,0⟩ rfl ρp;obtain⟨a,d2,Vc⟩:=d2 rfl;obtain⟨t2,rfl⟩:=d2 (Vc (by refine⟨by decide,λr hr=>?_⟩;rw[ZS] at hr;subst hr;exact⟨by decide,by decide,rfl⟩));obtain⟨t3,d3⟩:=d3 rfl;obtain⟨_,d4⟩:=d4 rfl;obtain⟨_,d5⟩:=d5 rfl;rw[t2] at d3;rw[t3,t2] at d4;have d3:pp 2 y2 1 pA y3:=d3 rfl;have d4:pp 3 y3 1 pA y4:=d4 rfl;rcases h.first with ⟨n,g1,g2,_⟩|⟨_,rfl⟩
 ·exact ax g2 g1
 have O1:YS.Ok ⟨fw 1 100 [cA],0,0,[]⟩:=fw.ok mC.cA ρf kt.cA ρf ρf;have A1:AL (fw 1 100 [cA]) []:=by
  refine⟨rfl,rfl,rfl,λj=>⟨rfl,?_⟩,rfl⟩;show Go.Proofs.YtfdlemkplejdnaaGreat.kd (di [cA] j).u0 (di [cA] j).u1 (di [cA] j).u2<2;unfold di;cases e:fc [cA] j with
  | none=>decide
  | some c=>obtain⟨_,rfl⟩:=pG e;decide
 obtain⟨s2,A2,c2,O2,p2⟩:=A1.put O1 ρf (.inl rfl) d3;obtain⟨A3,c3,O3,l3,k3,a,e3⟩:=AL.pick A2 O2 (ZJ _) p2;have c2:s2.acc=0+100:=c2;have c3:y3.s.acc=s2.acc:=c3;have l3:y3.til=0+100:=l3;have k3:y3.clk=0:=k3;obtain⟨s4,A4,c4,O4,p4⟩:=A3.put O3 ρa (.inl rfl) d4;have hb:y4={y3 with s:=s4,ev:=y3.ev++[⟨3,true,false,y3.clk,0,1,pA⟩]}:=by
  cases p4 with
  | busy _=>rfl
  | idle g _=>exfalso;have g:y3.til<=y3.clk:=g;omega
  | pick g _ _ _ _=>exfalso;have g:y3.til<=y3.clk:=g;omega
 have hp:eX 3 {y3 with s:=s4,ev:=y3.ev++[⟨3,true,false,y3.clk,0,1,pA⟩]} {y3 with s:=s4,ev:=y3.ev++[⟨3,true,false,y3.clk,0,1,pA⟩]}:=.busy (by show y3.clk<y3.til;omega);have O5:=(hp.ok O4).1;have d5:bP 4 (y4.clk+150) y4 y:=d5 (by rw[hb];show (150:Int)<=4611686018427387904 - y3.clk;omega);have hk:y4.clk+150=150:=by rw[hb];show y3.clk+150=150;omega
 rw[hk,hb] at d5;obtain⟨b,e5⟩:=AL.rounds A4 O5 k3 (by show y3.til=100;omega) d5;refine⟨a,b,?_⟩;rw[e5];show (y3.ev++[⟨3,true,false,y3.clk,0,1,pA⟩])++_=_;rw[e3,k3];rfl
end Go.Proofs.YtfdlemkplejdnaaGreat
