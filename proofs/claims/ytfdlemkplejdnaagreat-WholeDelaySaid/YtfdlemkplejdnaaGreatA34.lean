/- WholeDelay, part 34. Conditions: none. -/
import Derived.Test.YtfdlemkplejdnaaGreatA33
namespace Go.Proofs.YtfdlemkplejdnaaGreat
open Go.RowKit Go.Sort
open Value renaming int->ι,pointer->ψ,slice->ζ,tuple->χ,agg->φ,map->μ,bool->β
open IntKind renaming u64->υ,i64->ε,u16->ω
open Ending renaming returned->ϰ
open Go.Proofs.Tryz renaming prog->Ψ,underlying3->Θ,underlying147->Δ,underlying152->Γ,underlying202->Φ,underlying39->Ξ,underlying207->Ω
open Go renaming World->ϖ,Value->ϗ
set_option linter.unusedVariables false
set_option linter.unusedSimpArgs false
set_option maxHeartbeats 8000000
set_option maxRecDepth 100000
theorem af.ne_hold {α β:Type} {e e':TypeId} {n n':Nat} {enc:α->List ϗ} {enc':β->List ϗ} {w:ϖ} {b b':Nat} {v v':ϗ} {l:List α} {l':List β} (h:af e n enc w b v l)(h':af e' n' enc' w b' v' l')(JX:e≠e')(x:Nat)(hx:some x=v.ownBlock):some x≠v'.ownBlock:=by
 intro q;rcases h.2 with ⟨hv,_⟩|⟨g,JN,cur,hv,_,hh,_⟩
 ·rw[hv] at hx;cases hx
 ·rcases h'.2 with ⟨hv',_⟩|⟨g',Ps,cur',hv',_,hh',_⟩
  ·rw[hv'] at q;cases q
  ·rw[hv] at hx;rw[hv'] at q;cases hx;cases q
   rw[hh] at hh';cases hh'
   exact JX rfl
abbrev JA (x:Int × Int × Int):List ϗ:=[ι ε x.1,ι ε x.2.1,ι ε x.2.2]
abbrev Cr (w:ϖ)(base:Nat)(v:ϗ)(l:List (Int × Int × Int)):Prop:=af 93 3 JA w base v l
theorem eN.len {T Lm:Int} {L2:List CD} {Pn:Int->Prop} (Kf:∀y0,mP T Lm L2 Pn y0->y0.Ok) {l:List OI} {y:YS} (h:eN T Lm (mP T Lm L2 Pn) l y):y.ev.length<=2*l.length:=by
 cases l with
 | nil=>have h:y=_:=h;rw[h];simp
 | cons x l=>
  obtain⟨y0,h1,h2⟩:=h;have h3:(y0.ev.length:Int)+y0.s.pks<=0:=by rcases h1 with ⟨n,_,_,rfl⟩|⟨_,rfl⟩<;>simp[oU]
  have:=h2.len (Kf y0 h1) h3;have:=SS.pks_nonneg y.s;simp only[uo];omega
theorem Bq:(Ψ.info? 93).map (λi=>(i.zero,i.size,i.bytes))=some (some (φ #[Kz,Kz,Kz]),3,24):=by kernel_rfl
theorem CW (T Lm:Int)(hT:1<=T/\T<=65536)(hL:1<=Lm/\Lm<=16384)(x0:OI)(r:List OI)(v:ϗ)(B:Nat)(w:ϖ)(G:iV w B v (x0::r))(JS:(x0::r).length<=1000)(Rn:List OI->SA->YS->Prop)(hR0:∀z,Rn [] z ⟨fU T Lm [],0,0,[]⟩)(hRl:∀dn z y,Rn dn z y->y.ev.length<=2*dn.length)
  (hDo:∀(dn rest:List OI) (x:OI),x0::r=dn++x::rest->∀(p:Pt) (z:SA) (y:YS) (w1:ϖ),aE p w1 z dn.length (2*dn.length) y->Rn dn z y->(∀x,p x≠6)->∀cs:List ϗ,ji w B x cs->ji w1 B x cs->(∀x,x<w.heap.size->p x=0)->Below w w w1->Calls Ψ 30 #[pt z.Y,φ cs.toArray] w1 λe w'=>∃a b c v z' p' y' l',e=ϰ (χ #[φ #[ι ε a,ι ε b,ι ε c],v])/\z'.Y=z.Y/\Rn (dn++[x]) z' y'/\(∀x,x<w1.heap.size->p' x=p x)/\aE p' w' z' (dn.length+1) (2*dn.length+2) y'/\cu w' w1 v l'/\(∀x,some x=v.ownBlock->p' x=0)/\(∀x,p' x≠6)/\y'.ev=y.ev++l'/\KO (λx=>p x≠0) w1 w'):Calls Ψ 9 #[φ #[ι ε T,ι ε Lm,v]] w λe w'=>∃rs ev y,e=ϰ (χ #[φ #[rs,ev],Kz])/\(∃z,Rn (x0::r) z y)/\cu w' w ev y.ev/\(∃ra rn rc,rs=ζ ra rn rc)/\Below w w w':=by
 have G0:=G;obtain⟨oa,oc,rfl,Uj,hB,QY⟩:=G;obtain⟨n,hn⟩:=Nq ((x0::r).length);rw[hn] at JS Uj ⊢;go_in;go_wp2_with fail;refine au w (λv=>Below w w v) (λv=>Below w w v/\v.heap.size=w+2/\ah v w #[ι ε T,ι ε Lm,ζ oa n oc] 26/\ah v (w+1) #[Kn,Kn] 35) ρE (λkx=>⟨kx,by first|rfl|(simp;done),ρB,ρB⟩) ?_;rintro v1 ⟨k1,z1,X1,R1⟩;replace z1:=ag z1;refine(IS T Lm v1 hT hL).mono ?_;rintro e v2 ⟨z,p,rfl,H2,plow,p6,k2⟩;obtain⟨X2,R2⟩:=Mw k2 (θ2 X1 R1);have JE:Below w w v2:=k1.trans (k2.mono τm);have YT:=k2.size;have d1:=df (1000<(n:Int));have Rr:=X2.r;have zR:=R2.size;clear X1 R1 k1 k2;go_upto_region 8 with (fail);refine aW v2 (λv=>Below v2 v2 v) (λv=>Below v2 v2 v/\ah v v2 #[Kn,Kn] 35) ρE (λkx=>⟨kx,ρB⟩) ?_;rintro v3 ⟨k3,Z3⟩;obtain⟨OB,hOB⟩:=Nq v2.heap.size;obtain⟨X3,R3⟩:=Mw k3 (θ2 X2 R2);have H3:=(H2.more v2 0 (ZR _)).below k3;have JI:Below w w v3:=JE.trans (k3.mono ρa);obtain⟨p1,Lh⟩:=Nq (p.more v2 0);rw[Lh] at H3;have YM:∀x,x<v1.heap.size->p1 x=0:=λx hx=>by rw[<- Lh,Pt.more_lt ρa];exact plow x hx
 have pOB1:p1 v2.heap.size=0:=by rw[<- Lh];exact Pt.more_ge (ZR _)
 have p61:∀x,p1 x≠6:=λx=>by rw[<- Lh];unfold Pt.more;split;exact p6 x;omega
 have gOB:w+2<=OB:=τm;rw[hOB] at Z3 pOB1 ⊢;clear Lh zR X2 R2 H2 JE k3 hOB plow p6;go_loopw [31] (λk wr=>∃(dn rest:List OI) (z':SA) (p':Pt) (y:YS) (rs ev:ϗ) (rl:List (Int × Int × Int)),k=ι ε (dn.length:Nat)/\x0::r=dn++rest/\z'.Y=z.Y/\aE p' wr z' dn.length (2*dn.length) y/\Rn dn z' y/\Cr wr w rs rl/\rl.length=dn.length/\cu wr w ev y.ev/\ah wr OB #[rs,ev] 35/\p' OB=0/\(∀x,some x=rs.ownBlock->p' x=0)/\(∀x,some x=ev.ownBlock->p' x=0)/\(∀x,p' x≠6)/\(∀x,x<v1.heap.size->p' x=0)/\ah wr (w+1) #[Kn,Kn] 35/\Below w w wr) (λk _=>n - (intOf k).toNat);case atStart=>exact⟨[],x0::r,z,p1,_,_,_,[],rfl,rfl,rfl,H3,hR0 z,af.nil _ _,rfl,af.nil _ _,Z3,pOB1,(λx hx=>by cases hx),(λx hx=>by cases hx),p61,YM,R3,JI⟩
 case round=>
  obtain⟨dn,rest,z',p',y,rs,ev,rl,rfl,No,hzY,H0,hR,RS0,Mz,YX,Z0,pOB,prs,pev,p6',plow',R0,JG⟩:=hrel;clear H3 Z3 X3 R3 JI YM pOB1 p61;have zw:=JG.size;obtain⟨q,hq⟩:=Nq dn.length;have JO:dn.length+rest.length=n:=by rw[<- hn,No,ZL]
  obtain⟨YN,YO,rfl⟩:=af.slice RS0;obtain⟨WR,Pu,rfl⟩:=af.slice YX;obtain⟨en,Qt⟩:=Nq y.ev.length;rw[Mz] at RS0 prs Z0;rw[Qt] at YX pev Z0;rw[hq] at JO H0 RS0 prs Z0 Mz ⊢;cases rest with
  | nil=>
   refine η4 ?_;intro JM hd;have J9:dn=x0::r:=by rw[No,ZA]
   rw[J9] at hR;clear J9;change Hid _ at No JO hq Mz Qt hn;have cZ:=Z0.cell;have fZ:=Z0.frozen;have zZ:=Z0.size;have cR:=R0.cell;have fR:=R0.frozen;have zR:=R0.size;have nRZ:w+1≠OB:=ρa;go_wp2_with fail;refine eD wr (λx=>x=w.heap.size+1) (λu=>ah u (w+1) #[ζ YN q YO,ζ WR en Pu] 35) ρB (λ_ kx=>kx) ?_;rintro u Ru ku;clear cZ fZ zZ cR fR zR;have cR:=Ru.cell;refine ZO (v:=χ #[φ #[ζ YN q YO,ζ WR en Pu],Kz]) (by simp[results,Tryz.results9,go_sem,cR]) rfl ?_;refine⟨_,_,rfl,y,⟨z',hR⟩,?_,⟨_,_,_,rfl⟩,JG.trans (ku.below ρa ρF)⟩;exact af.ko YX ku (λx _ hx e=>af.ne_blk YX R0 ρf τz)
  | cons x rest=>
   refine η5 ?_;intro JM hd;have hi:(x0::r)[q]?=some x:=by rw[No,<- hq];simp
   have My:q<n:=ρa;obtain⟨g,off,cs,rfl,hg,UX,hrg⟩:=QY q x hi;have hOw:=ji.below UX (JG.mono hB);have RA:wr.rangeAt g (off+q*10) cs:=λj u hj=>(JG.cell (p:=⟨g,off+q*10+j,none⟩) (by show g<_;omega)).trans (hrg j u hj);have hO0':=UX;obtain⟨cv,rv,rfl,g1,g2⟩:=UX;obtain⟨ca,cc,rfl,_⟩:=g1.slice;obtain⟨ra,rc,rfl,_⟩:=g2.slice;obtain⟨cn,KR⟩:=Nq x.ch.length;obtain⟨rn,Tp⟩:=Nq x.rl.length;rw[KR] at hO0' hOw RA;rw[Tp] at hO0' hOw RA;clear g1 g2 hrg;change Hid _ at hq KR Tp Mz Qt No JO hi;have hwB:w.heap.size<=wr:=zw;go_upto_region 10 with (refine Go.wpList_load_mid rfl 80 _ rfl g (off+q*10) rfl [ι ε x.k,ζ ca cn cc,ζ ra rn rc,x.pk.id,ι ε x.pk.len,ι ω x.pk.h0,ι ω x.pk.h1,ι ω x.pk.h2,ι ω x.pk.h3,x.tk] _ RA Tryz.underlying80 rfl ρh ?_);refine aW wr (λv=>Below wr wr v) (λv=>Below wr wr v/\ah v wr #[ι ε x.k,ζ ca cn cc,ζ ra rn rc,x.pk.id,ι ε x.pk.len,ι ω x.pk.h0,ι ω x.pk.h1,ι ω x.pk.h2,ι ω x.pk.h3,x.tk] 80) ρE (λkx=>⟨kx,ρB⟩) ?_;rintro va ⟨ka,D1⟩;have za:=ka.size;have H1:=(H0.more wr 0 (ZR _)).below ka;have RS1:=af.below RS0 ka;have EV1:=af.below YX ka;obtain⟨Z1,R1⟩:=Mw ka (θ2 Z0 R0);have zZ0:=Z0.size;have zR0:=R0.size;have I':Below w w va:=JG.trans (ka.mono zw);have zrs:∀x,some x=(Value.slice YN q YO).ownBlock->x<wr.heap.size:=λx hx=>(af.own_ge RS0 x hx.symm).2;have zev:∀x,some x=(Value.slice WR en Pu).ownBlock->x<wr.heap.size:=λx hx=>(af.own_ge YX x hx.symm).2;obtain⟨pa,hpa⟩:=Nq (p'.more wr 0);rw[hpa] at H1;have qa:∀x,x<wr.heap.size->pa x=p' x:=λx hx=>by rw[<- hpa];exact Pt.more_lt hx
   have pa6:∀x,pa x≠6:=λx=>by rw[<- hpa];unfold Pt.more;split;exact p6' x;omega
   have zv1:v1.heap.size<=wr:=τm;have SM:∀x,x<v1.heap.size->pa x=0:=λx hx=>(qa x ρa).trans (plow' x hx);have paD:pa wr.heap.size=0:=by rw[<- hpa];exact Pt.more_ge (ZR _)
   clear hpa H0 RS0 YX Z0 R0 JG;have Ss:=D1.r;have hH1:aE pa va z' (dn.length:Nat) (2*dn.length) y:=by rw[hq.out];exact H1
   have cDo:=ag (hDo dn rest x No.out pa z' y va hH1 hR pa6 _ hO0' (hOw.below (ka.mono ρa)) (λx hx=>SM x τm) I');rw[hzY] at cDo;go_wp2_with fail;refine cDo.out.mono ?_;rintro e vb ⟨a,b,c,v,z2,p2,y2,l2,rfl,KN,Yk,q2,H2,G2,pv2,p62,Va,k2⟩;clear cDo hH1;rw[hq.out] at H2;have zb:=k2.size;obtain⟨va2,vc2,rfl⟩:=af.slice G2;obtain⟨ln,NH⟩:=Nq l2.length;rw[NH] at G2 pv2 ⊢;replace NH:=ag NH;have RS2:=af.ko RS1 k2 (λx _ hx h=>h ((qa x (zrs x hx)).trans (prs x hx)));have EV2:=af.ko EV1 k2 (λx _ hx h=>h ((qa x (zev x hx)).trans (pev x hx)));have Z2:=Z1.ko k2 (λh=>h ((qa _ zZ0).trans pOB));have R2:=R1.ko k2 (λh=>h (SM _ τm));have JE:Below w w vb:=I'.trans (k2.below ρa (λx hx h=>h (SM x τm)));have prs2:∀x,some x=(Value.slice YN q YO).ownBlock->p2 x=0:=λx hx=>(q2 x (by have:=zrs x hx;omega)).trans ((qa x (zrs x hx)).trans (prs x hx));have pev2:∀x,some x=(Value.slice WR en Pu).ownBlock->p2 x=0:=λx hx=>(q2 x (by have:=zev x hx;omega)).trans ((qa x (zev x hx)).trans (pev x hx));have pOB2:p2 OB=0:=(q2 _ ρa).trans ((qa _ zZ0).trans pOB);have plow2:∀x,x<v1.heap.size->p2 x=0:=λx hx=>(q2 x ρa).trans (SM x hx);clear H1 RS1 EV1 Z1 R1 I' D1 ka k2;have zZ2:=Z2.size;have zR2:=R2.size;have Ug:=hRl _ _ _ Yk;rw[Va,ZL,ZL,sg,hq.out] at Ug;obtain⟨p3,VZ⟩:=Nq (p2.more vb 0);have H2':=H2.more vb 0 (ZR _);rw[VZ] at H2';have q3:∀x,x<vb.heap.size->p3 x=p2 x:=λx hx=>by rw[<- VZ];exact Pt.more_lt hx
   have r3:∀x,vb.heap.size<=x->p3 x=0:=λx hx=>by rw[<- VZ];exact Pt.more_ge hx
   have p36:∀x,p3 x≠6:=λx=>by rw[<- VZ];unfold Pt.more;split;exact p62 x;omega
   clear H2;have H2:=H2';clear H2' VZ;have prs3:∀x,some x=(Value.slice YN q YO).ownBlock->p3 x=0:=λx hx=>(q3 x (by have:=zrs x hx;omega)).trans (prs2 x hx);have pev3:∀x,some x=(Value.slice WR en Pu).ownBlock->p3 x=0:=λx hx=>(q3 x (by have:=zev x hx;omega)).trans (pev2 x hx);have pOB3:p3 OB=0:=(q3 _ zZ2).trans pOB2;have plow3:∀x,x<v1.heap.size->p3 x=0:=λx hx=>(q3 x ρa).trans (plow2 x hx);have S2:=RS2;have E2:=EV2;have kw2:KO (λx=>w.heap.size<=x) w vb:=KO.of_below JE;clear JE RS2 EV2;have JE:KO (λx=>w.heap.size<=x) vb vb:=KO.refl _ _;replace hn:=ag hn;go_upto_region 11 with (fail);refine aW vb (λv=>Below vb vb v) (λv=>KO (λx=>w.heap.size<=x) vb v/\ah v (OB) #[ζ YN q YO,ζ WR en Pu] 35/\ah v ((w+1)) #[Kn,Kn] 35/\Cr v w (ζ YN q YO) rl/\cu v w (ζ WR en Pu) y.ev/\cu v va (ζ va2 ln vc2) l2/\aE p3 v z2 ((q:Int)+1) (2*q+2) y2/\ah v vb #[ι ε a,ι ε b,ι ε c] 93) ρE (λkx=>⟨JE.step0 kx,ρB,ρB,S2.below kx,E2.below kx,G2.below kx,H2.below kx,ρB⟩) ?_;rintro v3 ⟨JI,Z3,R3,S3,E3,G3,H3,A3⟩;replace cZ:=Z3.cell;replace fZ:=Z3.frozen;replace zZ:=Z3.size;replace cR:=R3.cell;replace fR:=R3.frozen;replace zR:=R3.size;clear Ss;replace Rr:=A3.r;have z3:=JI.size;go_upto_region 12 with (refine ic Tryz.underlying32 Bq rfl (λ_=>rfl) τF ρf ρf rfl (.tmp 42) (.tmp 44) rfl w (ζ YN q YO) rl (a,b,c) v3 #[ι ε a,ι ε b,ι ε c] rfl ρs ρs (S3.below ρE) ρB (by rw[Mz.out];omega) τA ?_;intro o4 v4 S4 kx To;replace kx:=kx.of_alloc;have Z4:=Z3.ko kx (λh=>af.ne_blk S3 Z3 ρf h);have R4:=R3.ko kx (λh=>af.ne_blk S3 R3 ρf h);have E4:=E3.ko kx (λx _ hx e=>af.ne_hold S3 E3 ρf x e hx);have G4:=G3.ko kx (λx _ hx e=>af.ne_hold S3 G3 ρf x e hx);have H4:=H3.ko kx (λx e=>.inl (prs3 x e));have JJ:KO (λx=>w.heap.size<=x) vb v4:=JI.trans kx (by intro y hy h;exact(af.own_ge S3 y h.symm).1);have VF:=JJ.size;replace cZ:=Z4.cell;replace fZ:=Z4.frozen;replace zZ:=Z4.size;replace cR:=R4.cell;replace fR:=R4.frozen;replace zR:=R4.size;have hl4:(rl++[((a,b,c):Int × Int × Int)]).length=q+1:=(by rw[ZL,Mz.out];rfl);obtain⟨rsa2,rsc2,rfl⟩:=af.slice S4;rw[hl4] at S4 To;rw[hl4]);refine ii v4 (λx=>x=OB) (λv=>ah v (OB) #[ζ rsa2 (q+1) rsc2,ζ WR en Pu] 35/\ah v ((w+1)) #[Kn,Kn] 35) ⟨ρB,ρB⟩ (λ_ kx=>θ5 (JJ.trans kx σw) (S4.ko kx (λx _ hx e=>af.ne_blk S4 Z4 ρf τz)) (E4.ko kx (λx _ hx e=>af.ne_blk E4 Z4 ρf τz)) (G4.ko kx (λx _ hx e=>af.ne_blk G4 Z4 ρf τz)) (H4.ko kx (λx e=>by rw[e];exact .inl pOB3))) ?_;rintro v5 ⟨Z5,R5⟩ ⟨JP,S5,E5,G5,H5⟩;replace cZ:=Z5.cell;replace fZ:=Z5.frozen;replace zZ:=Z5.size;replace cR:=R5.cell;replace fR:=R5.frozen;replace zR:=R5.size;have z5:=JP.size;have prs5:∀x,some x=(Value.slice rsa2 (q+1) rsc2).ownBlock->p3 x=0:=λx hx=>by rcases To x hx with g|g;exact prs3 x g;exact r3 x (by first|omega|(simp at g;omega))
   clear To;go_wp2_with (refine jN Tryz.underlying33 ux rfl (λ_=>rfl) τL ρf ρf rfl (.tmp 48) (.tmp 49) rfl w v5 (ζ WR en Pu) (ζ va2 ln vc2) y.ev l2 ρs ρs E5 (af.rd G5 (λ_=>rfl)) ρa ρa ?_;intro o6 v6 E6 kx To;have Z6:=Z5.ko kx (af.ne_blk E5 Z5 ρf);have R6:=R5.ko kx (af.ne_blk E5 R5 ρf);have S6:=af.ko S5 kx (λx _ hx e=>af.ne_hold E5 S5 ρf x e hx);have H6:=H5.ko kx (λx e=>.inl (pev3 x e));have JT:=JP.trans kx (by intro y hy h;exact(af.own_ge E5 y h.symm).1);have hl6:(y.ev++l2).length=en+ln:=(by rw[ZL,Qt.out,NH.out]);obtain⟨UQ,UT,rfl⟩:=af.slice E6;rw[hl6] at E6 To;rw[hl6];replace cZ:=Z6.cell;replace fZ:=Z6.frozen;replace zZ:=Z6.size);have Ui:(dn++[x]).length=q+1:=by rw[ZL,hq.out];rfl
   have e9:((q+1:Nat):Int)=(q:Int)+1:=ρa;have z6:=JT.size;have kZ:KO (λx=>x=OB) v6 (v6.setCell ⟨OB,1,none⟩ (ζ UQ (en+ln) UT)):=ρK;have H7:=H6.ko kZ (λx e=>by rw[e];exact .inl pOB3);have S7:=af.ko S6 kZ (λx _ hx e=>af.ne_blk S6 Z6 ρf τz);have E7:=af.ko E6 kZ (λx _ hx e=>af.ne_blk E6 Z6 ρf τz);have R7:=R6.ko kZ ρa;rw[show 2*q+2=2*(q+1) by omega,<- e9,<- Ui] at H7;have Z7:ah (v6.setCell ⟨OB,1,none⟩ (ζ UQ (en+ln) UT)) OB #[ζ rsa2 (q+1) rsc2,ζ UQ (en+ln) UT] 35:=ρB;have J7:Below w w (v6.setCell ⟨OB,1,none⟩ (ζ UQ (en+ln) UT)):=((kw2.trans JT (λx _ e=>e)).trans kZ (λx _ e=>by (try dsimp only at e);omega)).below (ZR _) (λx hx h=>by (try dsimp only at h);omega);have pev7:∀x,some x=(Value.slice UQ (en+ln) UT).ownBlock->p3 x=0:=λx hx=>by rcases To x hx with g|g;exact pev3 x g;exact r3 x ρa
   have Nr:(rl++[((a,b,c):Int × Int × Int)]).length=(dn++[x]).length:=by rw[Ui,ZL,Mz.out];rfl
   rw[<- Va] at E7;go_roundw;case rel=>exact⟨dn++[x],rest,z2,p3,y2,_,_,rl++[(a,b,c)],by rw[Ui];go_num,by rw[No.out];simp,KN,H7,Yk,S7,Nr,E7,Z7,pOB3,prs5,pev7,p36,plow3,R7,J7⟩
   case measure=>exact ξc
theorem IT (T Lm:Int)(hT:1<=T/\T<=65536)(hL:1<=Lm/\Lm<=16384)(x0:OI)(r:List OI)(L2:List CD)(Pn:Int->Prop)(v:ϗ)(B:Nat)(w:ϖ)(G:iV w B v (x0::r))(F:mZ w B T x0 L2 Pn)(Kf:∀y0,mP T Lm L2 Pn y0->y0.Ok)(JS:(x0::r).length<=1000)(hr:∀x ∈ r,x.k≠1/\x.fine):Calls Ψ 9 #[φ #[ι ε T,ι ε Lm,v]] w λe w'=>∃rs ev y,e=ϰ (χ #[φ #[rs,ev],Kz])/\eN T Lm (mP T Lm L2 Pn) (x0::r) y/\cu w' w ev y.ev/\(∃ra rn rc,rs=ζ ra rn rc)/\Below w w w':=by
 have hB:B<=w:=by obtain⟨_,_,_,_,hB,_⟩:=G;exact hB
 refine(CW T Lm hT hL x0 r v B w G JS (λdn _ y=>eN T Lm (mP T Lm L2 Pn) dn y) (λ_=>rfl) (λdn z y h=>h.len Kf) (λdn rest x No p z y w1 H hR h6 cs UX hO Nf hw=>EU T Lm x0 r L2 Pn w B F Kf JS hr dn rest x No p z y w1 H hR h6 cs UX hO Nf hB hw)).mono ?_;rintro e w' ⟨rs,ev,y,h1,⟨z,h2⟩,h3⟩;exact⟨rs,ev,y,h1,h2,h3⟩
def fw (L:List CD):List Int:=(L.filter SS.real).map CD.id
def pU (L:List CD)(i:Int):Int × Int × Int:=match fc L i with
 | some c=>(c.r0,c.r1,c.r2)
 | none=>(0,0,0)
theorem jr {L:List CD} {i:Int} {c:CD} (h:fc L i=some c):pU L i=(c.r0,c.r1,c.r2):=by unfold pU;rw[h]
theorem dE {L:List CD} (h:mO L) {i:Int}:i ∈ fw L↔∃c,fc L i=some c/\SS.real c=true:=by
 unfold fw;rw[List.mem_map];constructor
 ·rintro⟨c,hc,rfl⟩;obtain⟨h1,h2⟩:=ZE.1 hc;exact⟨c,h.ids c h1,h2⟩
 ·rintro⟨c,hc,hr⟩;obtain⟨h1,h2⟩:=fD hc;exact⟨c,ZE.2 ⟨h1,hr⟩,h2⟩
theorem kH {L:List CD} (h:(L.map CD.id).Nodup):(fw L).Nodup:=h.sublist (List.filter_sublist.map _)
theorem nh (m:TM)(d:Int):∀R:List Int,∃v,(v=d\/∃j q,m j=some q/\v=q.1)/\v<=d/\∀j ∈ R,∀q,m j=some q->v<=q.1
 | []=>⟨d,.inl rfl,ZJ _,λj h=>by simp at h⟩
 | i::R=>by
  obtain⟨v,h1,h2,h3⟩:=nh m d R;cases hm:m i with
  | none=>
   refine⟨v,h1,h2,λj hj q hq=>?_⟩;rcases ZC.1 hj with e|e
   ·rw[e,hm] at hq;cases hq
   ·exact h3 j e q hq
  | some q0=>
   by_cases g:v<=q0.1
   ·refine⟨v,h1,h2,λj hj q hq=>?_⟩;rcases ZC.1 hj with e|e
    ·rw[e,hm] at hq;cases hq;exact g
    ·exact h3 j e q hq
   ·refine⟨q0.1,.inr ⟨i,q0,hm,rfl⟩,by omega,λj hj q hq=>?_⟩;rcases ZC.1 hj with e|e
    ·rw[e,hm] at hq;cases hq;exact ZJ _
    ·have:=h3 j e q hq;omega
theorem SS.Inv.exE {s:SS} (h:s.Inv):∃v,eY s.lv Mc v:=by obtain⟨v,h1,h2,h3⟩:=nh s.lv Mc s.ids;refine⟨v,h1,h2,λj q hq=>h3 j ?_ q hq⟩;obtain⟨c,hc,_⟩:=h.lvn hq;exact(gJ h.lok).2 ⟨c,hc⟩
structure lu (T:Int) (L:List CD):Prop where
 adm:GS T (fw L) (pU L)
 rl:∀i c,fc L i=some c->SS.real c=true->c.lf=true
abbrev YS.DSx (y:YS)(x:Int):Prop:=DS y.s.T y.s.Lm (fw y.s.L) (pU y.s.L) y.clk x (λi=>(y.s.e i).du) (λi=>(y.s.e i).q) y.ev
structure YS.DU (y:YS) (x:Int):Prop where
 ds:y.DSx x
 dp:∀i ∈ fw y.s.L,(y.s.e i).du.p<=(y.s.e i).tot
section
variable {op:Int} {y z:YS} {x:Int}
theorem YS.Ok0.tl (h:y.Ok0):1<=y.s.T*y.s.Lm/\y.s.T*y.s.Lm<=1073741824:=uK h.tt h.num.lm
theorem YS.Ok0.early (h:y.Ok0)(K:lu y.s.T y.s.L) {t:Int} (ht:t<y.due):∀i ∈ fw y.s.L,(y.s.e i).q≠[]->t<(y.s.e i).du.e:=by intro i hi hq;obtain⟨c,hc,hr⟩:=(dE h.inv.lok).1 hi;exact h.inv.early (now:=t) h.inv.exE ht i c hc (K.rl i c hc hr) hr hq
theorem fN.du (hp:fN op y z)(h:y.Ok0)(K:lu y.s.T y.s.L)(D:y.DU (max y.til y.clk)):z.DU z.til:=by
 have h1:=h.clk;cases hp with
 | busy hb=>rw[show max y.til y.clk=y.til by omega] at D;exact D
 | idle hb Kh=>exact⟨D.ds.less (by show y.til<=_;omega),D.dp⟩
 | @pick i b c xs p r hb Kh hc hq hu=>
  obtain⟨P,hl,T,I,N,hp,ht⟩:=h.pick Kh hc hq hu;have VX:=h.inv.ec i c hc;have Un:=h.tl;have Sp:=h.num.lm;rw[show max y.til y.clk=y.clk by omega] at D;obtain⟨D,dp⟩:=D;have QU:=jr hc;have htot:(y.s.e i).tot+p.len<=1099511627776:=by have h1:=(N.tot i c (by rw[T.L];exact hc)).2;have h2:=N.bys_nonneg I;have h3:=N.acc;rw[T.tot i,ZP P.hd] at h1;omega
  refine⟨?_,λj hj=>?_⟩
  ·show DS _ _ _ _ y.clk (y.clk+y.s.T*p.len) _ _ (y.ev++[_]);rw[T.T,T.Lm,T.L];cases b with
   | true=>
    obtain⟨g1,⟨d,hd,_,hr,_⟩,g3⟩:=h.told.1.byReal h.clk.2.2 Kh;have hd:fc y.s.L i=some d:=hd;rw[hc] at hd;cases hd;have hi:i ∈ fw y.s.L:=(dE h.inv.lok).2 ⟨c,hc,hr⟩;have Yy:=dp i hi;refine D.real (k:=i) (p:=p) (r:=r) (kH h.num.nd) K.adm h.tt.1 Sp Un.2 h.clk.2 ⟨rfl,rfl,rfl,rfl,rfl⟩ hi hq (by show (y.s.e i).du.p+p.len<=_;omega) (λj hj hqj hej=>?_) (λj=>?_) (λj=>T.q j)
    ·obtain⟨d,hd,Uf⟩:=(dE h.inv.lok).1 hj;exact g3 j d hd (K.rl j d hd Uf) Uf hqj hej
    ·simp only[T.du j,VX,hr,and_true,if_true]
   | false=>
    have g3:=h.told.1.byShare h.clk.2.2 Kh;refine D.share (k:=i) (p:=p) (r:=r) h.tt.1 Sp h.clk.2 ⟨rfl,rfl,rfl,rfl,rfl⟩ hq hp.2 (λj hj hqj=>?_) (λj hj=>?_) (λj=>T.q j)
    ·obtain⟨d,hd,Uf⟩:=(dE h.inv.lok).1 hj;exact g3 j d hd (K.rl j d hd Uf) Uf hqj
    ·obtain⟨d,hd,Uf⟩:=(dE h.inv.lok).1 hj;simp only[T.du j];by_cases e:j=i
     ·subst e;rw[hc] at hd;cases hd;simp[VX,Uf]
     ·simp[e]
  ·have hjr:j ∈ fw y.s.L:=by have:=hj;rw[T.L] at this;exact this
   have Qd:=dp j hjr;have hrg:=(D.lfs j hjr).2.rng;clear hj;show ((y.s.take y.clk i b xs).e j).du.p<=((y.s.take y.clk i b xs).e j).tot;rw[T.du j,T.tot j];by_cases e:j=i
   ·subst e;rw[ZP P.hd];have hql:=gI (q:=(y.s.e j).q) (N:=y.s.Lm) (λz hz=>D.qs hjr z hz) ρa;have Mz:=gI (q:=r) (N:=y.s.Lm) (λz hz=>D.qs hjr z (by simp only[hq];simp[hz])) ρa;split
    ·cases b with
     | true=>have:=(vf (l:=(y.s.e j).du) (s:=p.len) (h:=av r) ρa ρa ρa).2.2.2.1;simp only[if_true];rw[this];omega
     | false=>have:=(gf (l:=(y.s.e j).du) (h:=av r) hrg ρa).2.2.2.1;simp only[Bool.false_eq_true,if_false];rw[this];omega
    ·omega
   ·rw[ZI (λg=>e g.1)];split<;>omega
theorem YS.Ok.now (h:y.Ok)(K:lu y.s.T y.s.L)(D:y.DU y.til):y.DU (max y.til y.clk):=by
 have h1:=h.clk;have Un:=h.tl;by_cases g:y.clk<y.til
 ·rw[show max y.til y.clk=y.til by omega];exact D
 ·refine⟨D.ds.reset y.clk ⟨h1.2.1,ZJ _⟩ ⟨ZJ _,h1.2.2⟩ (λi hi hq=>h.early K (h.idle ρa) i hi hq) ρa,D.dp⟩
theorem YS.Ok.next (h:y.Ok)(K:lu y.s.T y.s.L)(D:y.DU y.til)(hn:y.next<=4611686018427387904):({y with clk:=y.next}:YS).DU (max y.til y.next):=by
 have h1:=h.clk;have Un:=h.tl;have hx:y.clk<=y.next/\y.til<=y.next:=by unfold YS.next;omega
 by_cases g:y.til=y.next
 ·rw[show max y.til y.next=y.til by omega];exact⟨D.ds.later hx.1,D.dp⟩
 ·have hd:y.next=y.due/\y.clk<y.next:=by
   have:=h.idle;unfold YS.next at g hx ⊢;omega
  rw[show max y.til y.next=y.next by omega];exact⟨D.ds.reset (y.next - 1) ρa ⟨by show y.next - 1<=y.next;omega,hn⟩ (λi hi hq=>h.early K ρa i hi hq) (by show y.next<=y.next - 1+y.s.T*y.s.Lm;omega),D.dp⟩
theorem bY.du {stop:Int} (hr:bY op stop y z)(h:y.Ok)(hs:stop<=4611686018427387904)(h0:y.clk<=stop)(K:lu y.s.T y.s.L)(D:y.DU y.til):z.DU z.til:=by
 induction hr with
 | @done y hn=>exact⟨D.ds.later h0,D.dp⟩
 | @next y z t hn hp _ ih=>have ha:=h.at_next hs hn;obtain⟨g1,g2,g3,g4,g5⟩:=hp.ok ha;refine ih g1 (by rw[g2];exact hn) ?_ (hp.du ha K (h.next K D ρa));rw[g3,g4];exact K
theorem kX.du (hs:kX op y z)(h:y.Ok)(K:lu y.s.T y.s.L)(D:y.DU y.til):z.DU z.til:=by
 have h1:=h.clk;cases hs with
 | nothing=>exact D
 | refused hn e JX=>
  rcases bW h.inv.ec hn e with ⟨_,rfl|⟨rfl,_⟩⟩|⟨g,_⟩
  ·exact D
  ·exact⟨D.ds,D.dp⟩
  ·exact az g JX
 | @packet i p xs s' z hP e hp=>
  have I:=h.inv.put hP e;have hn:xs.Nodup\/fc y.s.L i=none:=by
   cases hc:fc y.s.L i with
   | none=>exact .inr rfl
   | some c=>exact ηL
  rcases hn with hn|hn
  ·rcases bW h.inv.ec hn e with ⟨g,_⟩|⟨_,c,F⟩
   ·exact az rfl g
   ·have P:=hP c F.cls.1;refine δb ?_;intro N O;have K':lu s'.T s'.L:=by rw[F.T,F.L];exact K
    refine hp.du O K' ?_;obtain⟨Dn,dp⟩:=h.now K D;have hc:=F.cls.1;have QU:=jr hc;refine⟨?_,λj hj=>?_⟩
    ·show DS _ _ _ _ y.clk (max y.til y.clk) _ _ (y.ev++[_]);rw[F.T,F.Lm,F.L];by_cases hw:i ∈ fw y.s.L/\(y.s.e i).q=[]
     ·obtain⟨hi,hqi⟩:=hw;obtain⟨d,hd,Uf⟩:=(dE h.inv.lok).1 hi;rw[hc] at hd;cases hd;refine Dn.wake (k:=i) ⟨h1.2.1,h1.2.2⟩ h.num.lm.2 ⟨rfl,rfl,rfl⟩ F.len hi hqi (λj=>?_) (λj=>?_)
      ·simp only[F.du j,hqi,Uf,and_true,QU]
      ·simp only[F.q j,hqi,List.nil_append]
     ·refine Dn.put (k:=i) h1.2.1 ⟨rfl,rfl,rfl⟩ F.len (λj hj=>?_) (λj hj=>F.q j) (λhi g=>hw ⟨hi,g⟩);simp only[F.du j];rw[ZI];rintro⟨rfl,g2,g3⟩;exact hw ⟨hj,g2⟩
    ·have hj:j ∈ fw y.s.L:=by have:=hj;rw[show ({y with s:=s',ev:=y.ev++[⟨op,true,false,y.clk,0,i,p⟩]}:YS).s=s' from rfl,F.L] at this;exact this
     have Qd:=dp j hj;have hrg:=(Dn.lfs j hj).2.rng;show (s'.e j).du.p<=(s'.e j).tot;rw[F.tot j,F.du j];split
     ·rename_i g;obtain⟨rfl,_,_⟩:=g;have hw:((y.s.e j).du.woke c.r0 c.r1 c.r2 y.clk).p=(y.s.e j).du.p:=rfl;have Lc:=F.len;have hlm:=h.num.lm;have:=(gf (l:=(y.s.e j).du.woke c.r0 c.r1 c.r2 y.clk) (h:=p.len) (by rw[hw];exact hrg) ρa).2.2.2.1;rw[this,hw];exact Qd
     ·exact Qd
  ·exact ξ9
 | adv h0 h1 hr=>exact hr.du h h1 h0 K D
theorem jk.du {y0:YS} {l:List OI} (hr:jk y0 l y)(h0:y0.Ok)(K:lu y0.s.T y0.s.L)(D:y0.DU y0.til):y.DU y.til:=by
 induction hr with
 | nil=>exact D
 | snoc hr _ hs _ ih=>obtain⟨g1,g2,g3,g4⟩:=hr.ok h0;exact hs.du g1 (by rw[g2,g3];exact K) ih
theorem YS.DU.wait (D:y.DU y.til)(h:y.Ok)(K:lu y.s.T y.s.L) {i:Int} (hi:i ∈ fw y.s.L) {p:PK} {r:List PK} (hq:(y.s.e i).q=p::r):xd (pU y.s.L i).1 (pU y.s.L i).2.1 (pU y.s.L i).2.2 (y.s.T*y.s.Lm) i y.ev (y.clk+1):=by
 have h1:=h.clk;have Un:=h.tl;obtain⟨hc,F⟩:=D.ds.lfs i hi;have G:=D.ds.gh i hi;have hp:=D.ds.qs hi p (by simp only[hq];simp);simp only[hq] at F G;have hl:av (p::r)=p.len:=rfl;refine G.good hc F hp.1 (λz hz hi=>by have:=D.ds.len z hz hi;omega) ?_;have t0:0<=(y.s.e i).du.t:=by obtain⟨g1,_,g3⟩:=F.hs ρa;rw[g3];exact(RN.reach_rng (RN.small_ok (F.lk g1).pair.1) _).1
 by_cases g:y.clk<y.til
 ·by_cases ht:(y.s.e i).du.t<=Mb
  ·have:=IB.done (k:=i) (h:=λi=>av (y.s.e i).q) (by have:=h.tt;omega) K.adm (kH h.num.nd) hi D.ds.lfs (by simp only[hq,hl];omega) rfl (D.ds.ib _ ⟨t0,ht⟩);simp only[hq,hl] at this;have h2:=uK h.tt (l:=p.len) ⟨hp.1,by have:=h.num.lm;omega⟩;omega
  ·omega
 ·have h2:=h.early K (h.idle ρa) i hi (by rw[hq];simp);have h3:=F.et hc ρa;omega
end
theorem AA (T Lm:Int)(L:List CD):(fU T Lm L).bys=0:=ks λ_ _=>rfl
theorem fU.inv {T Lm:Int} {L:List CD} (h:mO L):(fU T Lm L).Inv:=by
 refine⟨h,λi c hc=>?_,λi=>?_,λp j=>?_,λj p=>?_,λj=>?_⟩
 ·show (dL L i)=c;unfold dL;rw[show fc L i=some c from hc];rfl
 ·exact⟨λg=>Bool.noConfusion (show false=true from g),λ⟨_,_,_,_,g⟩=>az rfl g⟩
 ·exact⟨λg=>az g (by show j ∉ ([]:List Int);simp),λ⟨_,_,_,_,g⟩=>g.elim (λg=>Bool.noConfusion (show false=true from g)) (λg=>az rfl g)⟩
 ·show none=if j ∈ ([]:List Int) then _ else none;rw[ZI ρp]
 ·unfold SS.okl;show none=match fc L j with|some c=>if _/\_/\([]:List PK)≠[] then _ else none|none=>none;cases fc L j with
  | none=>rfl
  | some c=>exact(ZI (λg=>g.2.2 rfl)).symm
def kK (L:List CD):Prop:=∀c ∈ L,cV c.r0 c.r1 c.r2/\cV c.l0 c.l1 c.l2/\Go.Proofs.YtfdlemkplejdnaaGreat.kd c.l0 c.l1 c.l2≠4
theorem fU.num {T Lm:Int} {L:List CD} (nd:(L.map CD.id).Nodup)(cin:kK L)(lm:1<=Lm/\Lm<=16384):(fU T Lm L).Num:=by
 refine⟨nd,cin,lm,⟨ZJ _,by show (0:Int)<=_;omega⟩,⟨ZJ _,by show (0:Int)<=_;omega⟩,λi c _=>⟨ZJ _,?_⟩,λi c _ p hp=>?_,λi c _=>CH.low_zero⟩
 ·rw[AA];exact ZJ _
 ·exact az hp (by show p ∉ ([]:List PK);simp)
theorem fU.ok {T Lm:Int} {L:List CD} (h:mO L)(nd:(L.map CD.id).Nodup)(cin:kK L)(hT:1<=T/\T<=65536)(lm:1<=Lm/\Lm<=16384):YS.Ok ⟨fU T Lm L,0,0,[]⟩:=by refine⟨⟨fU.inv h,fU.num nd cin lm,⟨ZJ _,ZJ _,by show (0:Int)<=_;omega⟩,hT,by show (0:Int)<=0/\(0:Int)<=_;omega⟩,λ_=>?_⟩;show (0:Int)<min (di mQ) (fitT mQ);have h1:(0:Int)<di mQ:=qn ρa (λj q g=>by cases g);have h2:(0:Int)<fitT mQ:=uz ρa (λj q g=>by cases g);omega
theorem fU.du {T Lm:Int} {L:List CD} (h:mO L)(nd:(L.map CD.id).Nodup)(cin:kK L)(hT:1<=T/\T<=65536)(lm:1<=Lm/\Lm<=16384):YS.DU ⟨fU T Lm L,0,0,[]⟩ 0:=by
 have key:EW 0 (fw L) (pU L) (λ_=>GV) (λ_=>0):=λi hi=>by obtain⟨c,hc,_⟩:=(dE h).1 hi;rw[jr hc];refine⟨(cin c (fD hc).1).1,⟨ZJ _,by show (0:Int)<=_;omega⟩,⟨by show (0:Int)<=0;omega,by show (0:Int)<=_;omega⟩,λg=>Bool.noConfusion (show false=true from g),λg=>?_⟩;have g:(0:Int)<0:=g;omega
 have Un:=uK hT lm;refine⟨⟨λi hi=>key i hi,λi hi=>⟨rfl,λg=>Bool.noConfusion (show false=true from g)⟩,λdl hd=>?_,λi hi a v b hb=>?_,λe he=>?_,List.Pairwise.nil,λe he=>?_⟩,λi hi=>ZJ _⟩
 rotate_left
 ·have hb:([]:List EV)=a++v::b:=hb;cases a<;>cases hb
 ·have he:e ∈ ([]:List EV):=he;cases he
 ·have he:e ∈ ([]:List EV):=he;cases he
 exact IB.reset 0 key ⟨ZJ _,ZJ _⟩ ⟨ZJ _,by show (0:Int)<=_;omega⟩ hd.2 (λi hi g=>by have g:(0:Int)<0:=g;omega) (by show (0:Int)<=0+T*Lm;omega)
theorem mO.nil:mO []:=by
 refine⟨rfl,λi c h=>?_,⟨λ_=>0,λi c h=>?_⟩,λc h=>?_,by simp,λc h=>?_⟩
 ·cases h
 ·cases h
 ·cases h
 ·cases h
theorem kK.nil:kK []:=by intro c h;cases h
structure gD (n:Nat) (L:List CD):Prop where
 len:L.length<=n
 nd:(L.map CD.id).Nodup
 wc:∀c ∈ L,WC c=0/\CN c
 par:∀i c,fc L i=some c->c.par=0\/∃d,fc L c.par=some d/\d.lf=false/\(eV c=true->eV d=true)
 rk:∃rk:Int->Nat,∀i c,fc L i=some c->rk i<=n/\(c.par≠0->rk c.par<rk i)
theorem gD.nil:gD 0 []:=by
 refine⟨by simp,by simp,λc h=>?_,λi c h=>?_,λ_=>0,λi c h=>?_⟩
 ·cases h
 ·cases h
 ·cases h
theorem WC.facts {c:CD} (h:WC c=0):(1<=c.id/\c.id<=65536)/\(0<=c.par/\c.par<=65536)/\c.id≠c.par/\kd c.r0 c.r1 c.r2≠0/\kd c.l0 c.l1 c.l2≠0/\kd c.u0 c.u1 c.u2≠0/\kd c.l0 c.l1 c.l2≠4/\kd c.u0 c.u1 c.u2≠4/\(c.lf=true->(1<=c.pk/\c.pk<=64)/\(1<=c.by_/\c.by_<=1048576))/\(c.lf=false->kd c.r0 c.r1 c.r2=1):=by
 unfold WC wr at h;split at h
 ·omega
 ·split at h
  ·omega
  ·split at h
   ·omega
   ·refine⟨by omega,by omega,by omega,by omega,by omega,by omega,by omega,by omega,λhl=>?_,λhl=>?_⟩
    ·rw[ZP hl] at h;split at h
     ·omega
     ·omega
    ·rw[ZI (by rw[hl];simp)] at h;split at h
     ·omega
     ·omega
theorem mq {L:List CD} {i:Int} {c:CD} (h:fc L i=some c)(hi:i≠0):kJ L i=eV c:=by unfold kJ;rw[h];simp[hi,eV]
section
variable {n:Nat} {L M:List CD} {k:Int} {x:CD}
theorem gD.nz (h:gD n L):fc L 0=none:=by
 cases hc:fc L 0 with
 | none=>rfl
 | some c=>obtain⟨h1,h2⟩:=fD hc;have:=(WC.facts (h.wc c h1).1).1;omega
theorem gD.step (h:gD n L)(hx:CN x)(s:lx k x L M):gD (n+1) M:=by
 obtain⟨rk,hr⟩:=h.rk;rcases s with ⟨rfl,⟨hw,h0,h64,hp,hs⟩,rfl⟩|⟨rfl,⟨d0,h0⟩,hp,rfl⟩|⟨rfl,⟨hw,⟨d0,h0,hp,hl⟩,hs,Ki⟩,rfl⟩
 ·have hf:∀i,fc (bS x false L) i=if i=x.id then some x else fc L i:=λi=>iP x i L false;have F:=WC.facts hw;have hm:∀c ∈ bS x false L,c=x\/c ∈ L:=λc hc=>ηD
  refine⟨?_,gN x false h.nd,λc hc=>?_,λi c hc=>?_,λi=>if i=x.id then n+1 else rk i,λi c hc=>?_⟩
  ·have:=gm x L false;have:=h.len;simp at*;omega
  ·rcases hm c hc with e|e
   ·rw[e];exact⟨hw,hx⟩
   ·exact h.wc c e
  ·rw[hf] at hc;split at hc
   ·cases hc
    rcases hp with e|⟨d,hd,MF⟩
    ·exact .inl e
    ·refine .inr ⟨d,by rw[hf,ZI κa];exact hd,MF,λg=>?_⟩;have hpz:x.par≠0:=λe=>by rw[e,h.nz] at hd;cases hd
     rw[<- mq hd hpz];exact hs g
   ·rcases h.par i c hc with e|⟨d,hd,MF,RD⟩
    ·exact .inl e
    ·exact .inr ⟨d,by rw[hf,ZI κa];exact hd,MF,RD⟩
  ·rw[hf] at hc;simp only[];by_cases e:i=x.id
   ·rw[ZP e] at hc;cases hc;rw[ZP e];refine⟨ZR _,λhz=>?_⟩;rcases hp with g|⟨d,hd,MF⟩
    ·exact az g hz
    ·rw[ZI κa];have:=(hr _ _ hd).1;omega
   ·rw[ZI e] at hc;rw[ZI e];have:=hr i c hc;refine⟨by omega,λhz=>?_⟩;rcases h.par i c hc with g|⟨d,hd,_⟩
    ·exact az g hz
    ·rw[ZI κa];exact this.2 hz
 ·have hf:∀i,fc (L.filter (λc:CD=>c.id !=x.id)) i=if i=x.id then none else fc L i:=λi=>iO ρp i L;have Nz:∀i c,fc (L.filter (λc:CD=>c.id !=x.id)) i=some c->fc L i=some c:=λi c hc=>by
   rw[hf] at hc;split at hc
   ·cases hc
   ·exact hc
  refine⟨ZK (ZH _ _) (by have:=h.len;omega),ju _ h.nd,λc hc=>h.wc c (ZE.1 hc).1,λi c hc=>?_,rk,λi c hc=>?_⟩
  ·have hc:=Nz i c hc;rcases h.par i c hc with e|⟨d,hd,MF,RD⟩
   ·exact .inl e
   ·exact .inr ⟨d,by rw[hf,ZI (hp c (fD hc).1)];exact hd,MF,RD⟩
  ·have:=hr i c (Nz i c hc);exact⟨by omega,this.2⟩
 ·have hf:∀i,fc (bS x false L) i=if i=x.id then some x else fc L i:=λi=>iP x i L false;have F:=WC.facts hw;have hm:∀c ∈ bS x false L,c=x\/c ∈ L:=λc hc=>ηD
  have hd0:=h.par _ _ h0;refine⟨?_,gN x false h.nd,λc hc=>?_,λi c hc=>?_,rk,λi c hc=>?_⟩
  ·have:=gm x L false;have:=h.len;simp at*;omega
  ·rcases hm c hc with e|e
   ·rw[e];exact⟨hw,hx⟩
   ·exact h.wc c e
  ·rw[hf] at hc;split at hc
   ·cases hc
    rcases hd0 with e|⟨d,hd,MF,_⟩
    ·exact .inl (hp ▸ e)
    ·rw[hp] at hd;refine .inr ⟨d,by rw[hf,ZI (λe=>F.2.2.1 e.symm)];exact hd,MF,λg=>?_⟩;have hpz:x.par≠0:=λe=>by rw[e,h.nz] at hd;cases hd
     rw[<- mq hd hpz];exact hs g
   ·rcases h.par i c hc with e|⟨d,hd,MF,RD⟩
    ·exact .inl e
    ·by_cases e:c.par=x.id
     ·rw[e,h0] at hd;cases hd;refine .inr ⟨x,by rw[hf,ZP e],by rw[<- hl];exact MF,λg=>?_⟩;cases Um:eV x with
      | true=>rfl
      | false=>obtain⟨hcL,Nn⟩:=fD hc;have h1:=Ki Um c hcL e;have h2:=(WC.facts (h.wc c hcL).1).1;rw[mq (eO h.nd c hcL) ρa,g] at h1;exact h1.symm
     ·exact .inr ⟨d,by rw[hf,ZI e];exact hd,MF,RD⟩
  ·rw[hf] at hc;split at hc
   ·rename_i e;cases hc;have:=hr _ _ h0;rw[e];exact⟨by omega,λhz=>by rw[<- hp];exact this.2 (by rw[hp];exact hz)⟩
   ·have:=hr i c hc;exact⟨by omega,this.2⟩
theorem gD.lok (h:gD n L)(hn:n<=64):mO L:=by obtain⟨rk,hr⟩:=h.rk;exact⟨h.nz,h.par,⟨rk,λi c hc=>⟨by have:=(hr i c hc).1;omega,(hr i c hc).2⟩⟩,λc hc=>by have F:=WC.facts (h.wc c hc).1;exact⟨F.2.2.2.1,⟨F.2.2.2.2.1,F.2.2.2.2.2.2.1⟩,F.2.2.2.2.2.1⟩,by have:=h.len;omega,eO h.nd⟩
structure gE (L2 L:List CD):Prop where
 fc:∀i,fc L2 i=fc L i
 nd:(L2.map CD.id).Nodup
theorem gE.nil:gE [] []:=⟨λ_=>rfl,by simp⟩
theorem gE.step {L2:List CD} (h:gE L2 L)(s:lx k x L M):gE (eC k x L2) M:=by
 rcases s with ⟨rfl,_,rfl⟩|⟨rfl,_,_,rfl⟩|⟨rfl,_,rfl⟩
 ·exact ηG
 ·exact⟨λi=>by unfold eC;rw[ZP rfl,AX,iO (id:=x.id) ρp,h.fc],by unfold eC;rw[ZP rfl];exact ju _ h.nd⟩
 ·exact ηG
theorem gE.up {L2:List CD} (h:gE L2 L)(R:gD n L)(id:Int):∃xs,dy L2 id xs/\xs.length<=n+1:=by
 obtain⟨rk,hr⟩:=R.rk;cases hc:Go.Proofs.YtfdlemkplejdnaaGreat.fc L2 id with
 | none=>exact⟨[],hc,by simp⟩
 | some c=>
  refine nU (rk:=rk) (λj d hd=>?_) n id ?_
  ·rw[h.fc] at hd;by_cases e:d.par=0
   ·left;rw[e,h.fc];exact R.nz
   ·right;exact(hr j d hd).2 e
  ·rw[h.fc] at hc;exact(hr id c hc).1
end
theorem gE.steps:∀{ch:List (Int × CD)} {n:Nat} {L L2 M:List CD},gE L2 L->gD n L->n+ch.length<=64->(∀c ∈ ch,CN c.2)->dw ch L M->wZ ch L2/\gE (ch.foldl (λL c=>eC c.1 c.2 L) L2) M/\gD (n+ch.length) M
 | [],n,L,L2,M,h,R,hn,hc,s=>by cases s;exact⟨trivial,h,R⟩
 | c::r,n,L,L2,M,h,R,hn,hc,⟨K,s1,s2⟩=>by have hn:n+(r.length+1)<=64:=hn;obtain⟨g1,g2,g3⟩:=(h.step s1).steps (R.step (hc c ρp) s1) ρa κt s2;obtain⟨xs,u1,u2⟩:=h.up R c.2.par;refine⟨⟨λ_=>⟨xs,u1,by omega⟩,g1⟩,g2,?_⟩;show gD (n+(r.length+1)) M;rw[show n+(r.length+1)=n+1+r.length by omega];exact g3
theorem gE.lok {n:Nat} {L L2:List CD} (h:gE L2 L)(R:gD n L)(hn:n<=64)(hl:L2.length<=64):mO L2/\kK L2/\(∀c ∈ L2,WC c=0/\CN c):=by
 have K:=R.lok hn;have hm:∀c ∈ L2,c ∈ L:=λc hc=>by have:=eO h.nd c hc;rw[h.fc] at this;exact(fD this).1
 obtain⟨rk,hr⟩:=K.rk;refine⟨⟨by rw[h.fc];exact K.nz,λi c hc=>?_,⟨rk,λi c hc=>?_⟩,λc hc=>K.cls c (hm c hc),hl,eO h.nd⟩,λc hc=>?_,λc hc=>R.wc c (hm c hc)⟩
 ·rw[h.fc] at hc;rw[h.fc];exact K.par i c hc
 ·rw[h.fc] at hc;exact hr i c hc
 ·obtain⟨hw,hn⟩:=R.wc c (hm c hc);have F:=WC.facts hw;exact⟨cV.of hn.1.1 hn.1.2.1 hn.1.2.2 F.2.2.2.1,cV.of hn.2.1.1 hn.2.1.2.1 hn.2.1.2.2 F.2.2.2.2.1,F.2.2.2.2.2.2.1⟩
def GU (op:Int)(x:OI)(y:YS)(z z':SA)(y':YS):Prop:=(x.k=2->∃a,Ar x.rl a y z' y')/\(x.k=3->CY op x.pk y z z' y')/\(x.k=4->CZ op x.tk y z z' y')
inductive i4 (T Lm:Int) (L2:List CD) (Pn:Int->Prop):List OI->SA->YS->Prop
 | nil (z:SA):i4 T Lm L2 Pn [] z ⟨fU T Lm [],0,0,[]⟩
 | one (x:OI) (z:SA) (y:YS):mP T Lm L2 Pn y->i4 T Lm L2 Pn [x] z y
 | snoc {dn:List OI} {x:OI} {z:SA} {y:YS} {z':SA} {y':YS}:dn≠[]->i4 T Lm L2 Pn dn z y->GU (dn.length:Nat) x y z z' y'->i4 T Lm L2 Pn (dn++[x]) z' y'
theorem i4.back {T Lm:Int} {L2:List CD} {Pn:Int->Prop} {l:List OI} {z':SA} {y':YS} (h:i4 T Lm L2 Pn l z' y'):∀dn x,l=dn++[x]->dn≠[]->∃z y,i4 T Lm L2 Pn dn z y/\GU (dn.length:Nat) x y z z' y':=by
 cases h with
 | nil=>intro dn x e;cases dn<;>cases e
 | one x0 z y hs=>
  intro dn x e hd;cases dn with
  | nil=>exact az rfl hd
  | cons a r=>have:=ZG List.length e;simp at this
 | @snoc dn0 x0 z y _ _ hd0 h1 h2=>
  intro dn x e hd;obtain⟨rfl,h⟩:=List.append_inj' e rfl;cases h
  exact⟨z,y,h1,h2⟩
theorem IQ (T Lm:Int)(x0:OI)(r:List OI)(L2:List CD)(Pn:Int->Prop)(w0:ϖ)(B:Nat)(F:mZ w0 B T x0 L2 Pn)(Kf:∀y0,mP T Lm L2 Pn y0->y0.Ok)(JS:(x0::r).length<=1000)(hr:∀x ∈ r,x.k≠1/\x.fine)
  (dn rest:List OI) (x:OI) (No:x0::r=dn++x::rest) (p:Pt) (z:SA) (y:YS) (w:ϖ) (H:aE p w z dn.length (2*dn.length) y) (hR:eN T Lm (mP T Lm L2 Pn) dn y) (hX:i4 T Lm L2 Pn dn z y) (h6:∀x,p x≠6) (cs:List ϗ) (UX:ji w0 B x cs) (hO:ji w B x cs) (Nf:∀x,x<w0.heap.size->p x=0) (hB:B<=w0) (hw:Below w0 w0 w):Calls Ψ 30 #[pt z.Y,φ cs.toArray] w λe w'=>∃a b c v z' p' y' l',e=ϰ (χ #[φ #[ι ε a,ι ε b,ι ε c],v])/\z'.Y=z.Y/\(eN T Lm (mP T Lm L2 Pn) (dn++[x]) y'/\i4 T Lm L2 Pn (dn++[x]) z' y')/\(∀x,x<w.heap.size->p' x=p x)/\aE p' w' z' (dn.length+1) (2*dn.length+2) y'/\cu w' w v l'/\(∀x,some x=v.ownBlock->p' x=0)/\(∀x,p' x≠6)/\y'.ev=y.ev++l'/\KO (λx=>p x≠0) w w':=by
 have NH:dn.length<=1000:=by have:=ZG List.length No;simp at this JS;omega
 have Wa:∀x,x<w.heap.size->p x≠6:=λx _=>h6 x;cases dn with
 | nil=>
  have hx:x0=x:=by simpa using (List.cons.inj No).1
  subst hx;have hy:y=⟨fU T Lm [],0,0,[]⟩:=hR;subst hy;obtain⟨cv,rv,rfl,g1,g2⟩:=UX;obtain⟨a,JN,QU,_⟩:=g1.slice;have Sz:=F.k;obtain⟨xk,xch,xrl,xpk,xtk⟩:=x0;simp only at Sz;subst Sz;refine δM ?_;rintro e w' ⟨n,i,v,z',p',s',rfl,e1,hc,e2,H',G',e3,e4,k'⟩;have KZ:mP T Lm L2 Pn ⟨s',0,0,[]⟩:=ηR
  exact⟨n,i,0,v,z',p',⟨s',0,0,[]⟩,[],rfl,e1,⟨⟨⟨s',0,0,[]⟩,KZ,.nil⟩,.one _ z' _ KZ⟩,e2,H'.mono ρa,G',e3,e4,rfl,k'⟩
 | cons x1 dn=>
  obtain⟨KA,NX⟩:=List.cons.inj No;subst KA;obtain⟨hk,hf⟩:=hr x (by rw[NX];simp);have hy:y.Ok:=by obtain⟨y0,h1,h2⟩:=hR;exact(h2.ok (Kf y0 h1)).1
  obtain⟨cv,rv,rfl,g1,g2⟩:=hO;have fin:∀{w':ϖ} {a b c:Int} {v:ϗ} {z':SA} {p':Pt} {y':YS} {l':List EV},z'.Y=z.Y->kX ((dn.length:Int)+1) y y'->(∀x,x<w.heap.size->p' x=p x)->aE p' w' z' (((x0::dn).length:Int)+1) (2*(x0::dn).length+2) y'->cu w' w v l'->(∀x,some x=v.ownBlock->p' x=0)->(∀x,p' x≠6)->y'.ev=y.ev++l'->KO (λx=>p x≠0) w w'->y'.clk=x.clk y.clk->GU ((x0::dn).length:Nat) x y z z' y'->
    ∃a' b' c' v' z' p' y' l',(Ending.returned (χ #[φ #[ι ε a,ι ε b,ι ε c],v])=ϰ (χ #[φ #[ι ε a',ι ε b',ι ε c'],v']))/\z'.Y=z.Y/\(eN T Lm (mP T Lm L2 Pn) (x0::dn++[x]) y'/\i4 T Lm L2 Pn (x0::dn++[x]) z' y')/\(∀x,x<w.heap.size->p' x=p x)/\aE p' w' z' (((x0::dn).length:Int)+1) (2*(x0::dn).length+2) y'/\cu w' w v' l'/\(∀x,some x=v'.ownBlock->p' x=0)/\(∀x,p' x≠6)/\y'.ev=y.ev++l'/\KO (λx=>p x≠0) w w':=
   λe1 e2 e3 e4 e5 e6 e7 e8 e9 P' e11=>⟨_,_,_,_,_,_,_,_,rfl,e1,⟨hR.snoc hk e2 P',.snoc ρp hX e11⟩,e3,e4,e5,e6,e7,e8,e9⟩
  have QY:0<=((x0::dn).length:Int)/\((x0::dn).length:Int)<=100000:=ρa;have KZ:(((x0::dn).length:Nat):Int)=(dn.length:Int)+1:=ρp;by_cases k2:x.k=2
  ·refine(show Calls _ _ _ _ _ from by
    have:=GK p z _ _ y cv rv x.pk x.tk x.rl B w H hy Wa QY ρa g2 hf.rl (λx hx=>Nf x ρa);rw[<- k2] at this;exact this).mono ?_
   rintro e w' ⟨a,b,c,v,z',p',y',l',rfl,e1,e2,e3,e4,e5,e6,e7,e8,_,e9,P',hD⟩;exact fin e1 (KZ ▸ e2) e3 e4 e5 e6 e7 e8 e9 τH (⟨λ_=>⟨_,hD⟩,λh=>by omega,λh=>by omega⟩)
  by_cases k3:x.k=3
  ·refine(show Calls _ _ _ _ _ from by
    have:=GL p z _ _ y cv rv x.pk x.tk w H hy Wa QY ρa;rw[<- k3] at this;exact this).mono ?_
   rintro e w' ⟨a,b,c,v,z',p',y',l',rfl,e1,e2,e3,e4,e5,e6,e7,e8,_,e9,P',hD⟩;exact fin e1 (KZ ▸ e2) e3 e4 e5 e6 e7 e8 e9 τH (⟨λh=>by omega,λ_=>hD,λh=>by omega⟩)
  by_cases k4:x.k=4
  ·refine(show Calls _ _ _ _ _ from by
    have:=GM p z _ _ y cv rv x.pk x.tk w H hy Wa QY ρa hf.tk;rw[<- k4] at this;exact this).mono ?_
   rintro e w' ⟨a,b,c,v,z',p',y',l',rfl,e1,e2,e3,e4,e5,e6,e7,e8,_,e9,P',hD⟩;exact fin e1 (KZ ▸ e2) e3 e4 e5 e6 e7 e8 e9 (by rw[P'];unfold OI.clk;rw[ZP k4]) (⟨λh=>by omega,λh=>by omega,λ_=>hD⟩)
  ·refine(GJ p z _ _ y x.k cv rv x.pk x.tk w H hy Wa QY ρa ⟨hk,k2,k3,k4⟩).mono ?_;rintro e w' ⟨a,b,c,v,z',p',y',l',rfl,e1,e2,e3,e4,e5,e6,e7,e8,_,e9,P',hD⟩;exact fin e1 (KZ ▸ e2) e3 e4 e5 e6 e7 e8 e9 (by rw[P'];unfold OI.clk;rw[ZI k4]) (⟨λh=>az h k2,λh=>az h k3,λh=>az h k4⟩)
theorem GO (T Lm:Int)(hT:1<=T/\T<=65536)(hL:1<=Lm/\Lm<=16384)(x0:OI)(r:List OI)(L2:List CD)(Pn:Int->Prop)(v:ϗ)(B:Nat)(w:ϖ)(G:iV w B v (x0::r))(F:mZ w B T x0 L2 Pn)(Kf:∀y0,mP T Lm L2 Pn y0->y0.Ok)(JS:(x0::r).length<=1000)(hr:∀x ∈ r,x.k≠1/\x.fine):Calls Ψ 9 #[φ #[ι ε T,ι ε Lm,v]] w λe w'=>∃rs ev z y,e=ϰ (χ #[φ #[rs,ev],Kz])/\i4 T Lm L2 Pn (x0::r) z y/\cu w' w ev y.ev/\(∃ra rn rc,rs=ζ ra rn rc)/\Below w w w':=by
 have hB:B<=w:=by obtain⟨_,_,_,_,hB,_⟩:=G;exact hB
 refine(CW T Lm hT hL x0 r v B w G JS (λdn z y=>eN T Lm (mP T Lm L2 Pn) dn y/\i4 T Lm L2 Pn dn z y) (λz=>⟨rfl,.nil z⟩) (λdn z y h=>h.1.len Kf) (λdn rest x No p z y w1 H hR h6 cs UX hO Nf hw=>IQ T Lm x0 r L2 Pn w B F Kf JS hr dn rest x No p z y w1 H hR.1 hR.2 h6 cs UX hO Nf hB hw)).mono ?_;rintro e w' ⟨rs,ev,y,h1,⟨z,h2⟩,h3⟩;exact⟨rs,ev,z,y,h1,h2.2,h3⟩
def SS.Z (s:SS):Prop:=∀j,(s.e j).cp=CH.zero/\Go.Proofs.YtfdlemkplejdnaaGreat.kd (s.e j).c.u0 (s.e j).c.u1 (s.e j).c.u2<2
section
variable {s t:SS}
theorem SS.Z.like (h:s.Z)(e:∀j,(t.e j).cp=(s.e j).cp/\(t.e j).c=(s.e j).c):t.Z:=λj=>by rw[(e j).1,(e j).2];exact h j
theorem SS.Z.setE (h:s.Z) {i:Int} {x:EN} (hx:x.cp=CH.zero/\x.c=(s.e i).c):(s.setE i x).Z:=λj=>by
 unfold SS.setE ax;simp only[];by_cases hj:j=i
 ·subst hj;rw[ZP rfl,hx.1,hx.2];exact⟨rfl,(h j).2⟩
 ·rw[ZI hj];exact h j
theorem SS.Z.dues (h:s.Z)(i:Int)(l:LF):(s.duesTo i l).Z:=by have h1:=h.setE (i:=i) (x:={s.e i with du:=l}) ⟨(h i).1,rfl⟩;exact h1.like λj=>⟨rfl,rfl⟩
theorem SS.Z.wake1 (h:s.Z)(now i:Int):(s.wake1 now i).Z:=by refine h.setE ⟨?_,rfl⟩;show CH.capped _ _ _ _ _ _=_;unfold CH.capped;rw[ZP (h i).2]
theorem SS.Z.wakes:∀{s:SS},s.Z->∀(now:Int)(xs:List Int),(xs.foldl (SS.wake1 now) s).Z
 | _,h,_,[]=>h
 | _,h,now,x::r=>SS.Z.wakes (h.wake1 now x) now r
theorem SS.Z.wakeS (h:s.Z)(now i:Int)(up:List Int):(s.wakeS now i up).Z:=by unfold SS.wakeS;have h1:({s with A:=⟨ax s.A.on i true,(bp s.A.K up).2⟩}:SS).Z:=h;refine(h1.wakes now (bp s.A.K up).1).like λj=>?_;rw[(fI _ up).2.1];exact⟨rfl,rfl⟩
theorem SS.Z.wake (h:s.Z)(now i hh:Int)(up:List Int):(s.wake now i hh up).Z:=by
 unfold SS.wake;dsimp only;have h1:(if SS.real (s.e i).c then s.duesTo i (((s.e i).du.woke (s.e i).c.r0 (s.e i).c.r1 (s.e i).c.r2 now).headed hh) else s).Z:=by
  split
  ·exact h.dues _ _
  ·exact h
 by_cases g:eV (s.e i).c=true
 ·rw[ZP g];exact h1.wakeS now i up
 ·rw[ZI g];exact h1
theorem SS.Z.put (h:s.Z) {now i n:Int} {p:PK} {xs:List Int} {s':SS} (e:s.put now i p xs=(n,s')):s'.Z:=by
 unfold SS.put at e;split at e
 ·cases e;exact h
 cases hc:fc s.L i with
 | none=>simp only[hc] at e;cases e;exact h
 | some c=>
  simp only[hc] at e;by_cases g1:c.lf=false
  ·rw[ZP g1] at e;cases e;exact h
  rw[ZI g1] at e;split at e
  ·cases e;exact h
  split at e
  ·cases e;exact h
  split at e
  ·cases e;exact h
  have h0:({s with clk:=now}:SS).Z:=h;have h1:=h0.setE (i:=i) (x:={s.e i with q:=(s.e i).q++[p]}) ⟨(h i).1,rfl⟩;have h2:({(({s with clk:=now}:SS).setE i {s.e i with q:=(s.e i).q++[p]}) with acc:=s.acc+p.len}:SS).Z:=h1.like λj=>⟨rfl,rfl⟩;split at e
  ·cases e;exact h2.wake _ _ _ _
  ·cases e;exact h2
theorem SS.Z.took (h:s.Z) {now i:Int} {b:Bool} {xs:List Int} {p:PK} {r:List PK} (T:n6 s t now i b xs p r):t.Z:=λj=>by
 rw[T.cc j,T.cp j];refine⟨?_,(h j).2⟩;split
 ·rw[(h j).1];rfl
 ·exact(h j).1
theorem yo {now i:Int} {p:PK} {xs:List Int} {c:CD} (h1:s.clk<=now/\now<=4611686018427387904)(hc:fc s.L i=some c)(hl:c.lf=true)(hp:1<=p.len/\p.len<=s.Lm)(ha:s.acc+p.len<=1099511627776)(hb:aA (s.e i).q+p.len<=c.by_)(hq:(s.e i).q.length≠c.pk.toNat):(s.put now i p xs).1=0:=by unfold SS.put;rw[ZI (by simp[SS.told,h1])];simp only[hc];rw[ZI (by simp[hl]),ZI ρa,ZI ρa,ZI ρa];split<;>rfl
end
def cA:CD:=⟨1,0,true,0,0,0,65536,0,65536,0,0,0,3,300⟩
def pA:PK:=⟨7,100,0,0,0,0⟩
theorem oz:fc [cA] 1=some cA:=rfl
theorem pX {i:Int} {c:CD} (h:fc [cA] i=some c):i=1/\c=cA:=by obtain⟨h1,h2⟩:=fD h;rw[ZS] at h1;subst h1;exact⟨h2.symm,rfl⟩
theorem yU:eV cA=true:=by decide
theorem mO.cA:mO [cA]:=by
 refine⟨rfl,λi c h=>?_,⟨λ_=>0,λi c h=>?_⟩,λc h=>?_,by decide,λc h=>?_⟩
 ·obtain⟨_,rfl⟩:=pX h;exact .inl rfl
 ·obtain⟨_,rfl⟩:=pX h;exact⟨by show 0<=900;omega,λg=>az rfl g⟩
 ·rw[ZS] at h;subst h;decide
 ·rw[ZS] at h;subst h;exact oz
theorem kK.cA:kK [cA]:=by intro c h;rw[ZS] at h;subst h;refine⟨?_,?_,by decide⟩<;>(unfold cV;decide)
theorem Ck {xs:List Int} (h:dy [cA] 1 xs):xs=[1]:=jM h ⟨Go.Proofs.YtfdlemkplejdnaaGreat.cA,oz,rfl,by show fc _ _=none;rfl⟩
structure AL (s:SS) (q:List PK):Prop where
 L:s.L=[cA]
 T:s.T=1
 Lm:s.Lm=100
 Z:s.Z
 q:(s.e 1).q=q
section
variable {s:SS} {q:List PK}
theorem AL.kd1 (h:AL s q)(I:s.Inv)(hq:q≠[]):s.kd 0 1=some ((s.e 1).sh.t,0)/\∀j,j≠1->s.kd 0 j=none:=by
 have hc:fc s.L 1=some cA:=by rw[h.L];exact oz
 have MT:s.A.on 1=true:=(I.on 1).2 ⟨cA,hc,rfl,yU,by rw[h.q];exact hq⟩;have hk:1 ∈ s.A.K 0:=(I.kk 0 1).2 ⟨cA,hc,rfl,yU,.inl MT⟩;have hf:s.fit 1=0:=by unfold SS.fit;rw[ZP (.inl (by rw[I.ec 1 cA hc];rfl)),(h.Z 1).1];rfl
 refine⟨by rw[I.kd 1 0,ZP hk,hf],λj hj=>?_⟩;rw[I.kd j 0,ZI (λg=>?_)];obtain⟨d,hd,_⟩:=(I.kk 0 j).1 g;rw[h.L] at hd;exact hj (pX hd).1
theorem AL.fitT (h:AL s q)(I:s.Inv)(hq:q≠[]):fitT (s.kd 0)=0:=by
 obtain⟨h1,h2⟩:=h.kd1 I hq;refine uy ⟨.inr ⟨1,_,h1,rfl⟩,by omega,λj x hx=>?_⟩;by_cases hj:j=1
 ·subst hj;rw[h1] at hx;cases hx;exact ZJ _
 ·rw[h2 j hj] at hx;cases hx
end
theorem AL.pick {op:Int} {y z:YS} {p:PK} {r:List PK} (h:AL y.s (p::r))(O:y.Ok0)(ht:y.til<=y.clk)(hp:fN op y z):AL z.s r/\z.s.acc=y.s.acc/\z.Ok/\z.til=y.clk+p.len/\z.clk=y.clk/\∃x,z.ev=y.ev++[⟨op,false,x,y.clk,y.clk+p.len,1,p⟩]:=by
 have hz:=hp.ok O;cases hp with
 | busy hb=>omega
 | idle hb Kh=>have:=O.told.1.idle O.clk.2.2 Kh;have h0:=h.fitT O.inv ρp;have h0:Go.Proofs.YtfdlemkplejdnaaGreat.fitT (({y.s with clk:=y.clk}:SS).kd 0)=0:=h0;rw[h0] at this;have:=O.clk;omega
 | @pick i x c xs p' r' hb Kh hc hq hu=>
  have QT:=hc;rw[h.L] at QT hu;obtain⟨rfl,rfl⟩:=pX QT;rw[h.q] at hq;cases hq
  obtain rfl:=Ck hu;obtain⟨_,_,T,_⟩:=O.pick Kh hc h.q (by rw[h.L];exact hu);refine⟨⟨T.L.trans h.L,T.T.trans h.T,T.Lm.trans h.Lm,h.Z.took T,by rw[T.q];rfl⟩,T.acc,hz.1,?_,rfl,x,?_⟩
  ·show y.clk+y.s.T*p.len=_;rw[h.T,Int.one_mul]
  ·show y.ev++[⟨_,_,_,_,y.clk+y.s.T*p.len,_,_⟩]=_;rw[h.T,Int.one_mul]
theorem AL.put {op:Int} {y y':YS} {q:List PK} (h:AL y.s q)(hy:y.Ok)(ha:y.s.acc<=1000)(hq:q=[]\/q=[pA])(hp:pG op y 1 pA y'):∃s',AL s' (q++[pA])/\s'.acc=y.s.acc+100/\YS.Ok0 {y with s:=s',ev:=y.ev++[⟨op,true,false,y.clk,0,1,pA⟩]}/\fN op {y with s:=s',ev:=y.ev++[⟨op,true,false,y.clk,0,1,pA⟩]} y':=by
 obtain⟨xs,n,s',hP,e,hc⟩:=hp;have hf:fc y.s.L 1=some cA:=by rw[h.L];exact oz
 have P:=hP cA hf;have h0:n=0:=by have:=yo (s:=y.s) (now:=y.clk) (i:=1) (p:=pA) (xs:=xs) (c:=cA) ⟨hy.clk.1,hy.clk.2.2⟩ hf rfl ⟨by decide,by rw[h.Lm];decide⟩ (by show y.s.acc+100<=_;omega) (by rw[h.q];rcases hq with rfl|rfl<;>decide) (by rw[h.q];rcases hq with rfl|rfl<;>decide);rw[e] at this;exact this
 subst h0;rcases hc with ⟨g,_⟩|⟨_,hpump⟩
 ·exact az rfl g
 have I:=hy.inv.put hP e;rcases bW hy.inv.ec (ZD.1 P.nd).2 e with ⟨g,_⟩|⟨_,c,F⟩
 ·exact az rfl g
 have N:=F.num hy.num hy.inv (λy hy=>eQ P.up y hy);refine⟨s',⟨F.L.trans h.L,F.T.trans h.T,F.Lm.trans h.Lm,h.Z.put e,by rw[F.q,ZP rfl,h.q]⟩,F.acc,⟨I,N,⟨by show SS.clk _<=_;rw[F.clk];exact ZJ _,hy.clk.2⟩,by show 1<=SS.T _/\SS.T _<=_;rw[F.T];exact hy.tt,hy.til⟩,hpump⟩
theorem AL.rounds {op:Int} {y y':YS} (h:AL y.s [pA])(hy:y.Ok)(hc:y.clk=0)(ht:y.til=100)(hr:bY op 150 y y'):∃x,y'.ev=y.ev++[⟨op,false,x,100,200,1,pA⟩]:=by
 have hn:y.next=100:=by have h0:=h.fitT hy.inv ρp;unfold YS.next YS.due;rw[h0,hc,ht];omega
 cases hr with
 | done g=>rw[hn] at g;omega
 | @next _ z _ _ hp hr=>
  have O:=hy.at_next (stop:=150) ρa (by rw[hn];omega);rw[hn] at hp O;obtain⟨_,_,_,h3,h4,x,h5⟩:=AL.pick (y:={y with clk:=100}) h O (by show y.til<=100;omega) hp;have h3:z.til=100+100:=h3;have h4:z.clk=100:=h4;refine⟨x,?_⟩;have hz:150<z.next:=by unfold YS.next;omega
  cases hr with
  | done _=>exact h5
  | next g=>omega
def rA:RL:=⟨⟨0,0,0,0⟩,⟨0,0,0,0⟩,1⟩
def DP:List OI:=[⟨1,[(1,cA)],[],PK.zero,0⟩,⟨2,[],[rA],PK.zero,0⟩,⟨3,[],[],pA,0⟩,⟨3,[],[],pA,0⟩,⟨4,[],[],PK.zero,150⟩]
theorem i4.first {T Lm:Int} {L2:List CD} {Pn:Int->Prop} {x:OI} {z:SA} {y:YS} (h:i4 T Lm L2 Pn [x] z y):mP T Lm L2 Pn y:=by
 generalize hl:[x]=l at h;cases h with
 | nil=>cases hl
 | one _ _ _ hs=>exact hs
 | snoc hd h1 h2=>exfalso;have h3:=ZG List.length hl;rw[ZL] at h3;exact hd (List.eq_nil_of_length_eq_zero (by simpa using h3))
theorem n9 {z:SA} {y:YS} (h:i4 1 100 [cA] (·=0) DP z y):∃a b,y.ev=[⟨2,true,false,0,0,1,pA⟩,⟨2,false,a,0,100,1,pA⟩,⟨3,true,false,0,0,1,pA⟩,⟨4,false,b,100,200,1,pA⟩]:=by
 obtain⟨z4,y4,h,_,_,d5⟩:=h.back [⟨1,[(1,cA)],[],PK.zero,0⟩,⟨2,[],[rA],PK.zero,0⟩,⟨3,[],[],pA,0⟩,⟨3,[],[],pA,0⟩] ⟨4,[],[],PK.zero,150⟩ rfl ρp;obtain⟨z3,y3,h,_,d4,_⟩:=h.back [⟨1,[(1,cA)],[],PK.zero,0⟩,⟨2,[],[rA],PK.zero,0⟩,⟨3,[],[],pA,0⟩] ⟨3,[],[],pA,0⟩ rfl ρp;obtain⟨z2,y2,h,_,d3,_⟩:=h.back [⟨1,[(1,cA)],[],PK.zero,0⟩,⟨2,[],[rA],PK.zero,0⟩] ⟨3,[],[],pA,0⟩ rfl ρp;obtain⟨z1,y1,h,d2,_,_⟩:=h.back [⟨1,[(1,cA)],[],PK.zero,0⟩] ⟨2,[],[rA],PK.zero,0⟩ rfl ρp;obtain⟨a,d2,VQ⟩:=d2 rfl;obtain⟨t2,rfl⟩:=d2 (VQ (by refine⟨by decide,λr hr=>?_⟩;rw[ZS] at hr;subst hr;exact⟨by decide,by decide,rfl⟩));obtain⟨t3,d3⟩:=d3 rfl;obtain⟨_,d4⟩:=d4 rfl;obtain⟨_,d5⟩:=d5 rfl;rw[t2] at d3;rw[t3,t2] at d4;have d3:pG 2 y2 1 pA y3:=d3 rfl;have d4:pG 3 y3 1 pA y4:=d4 rfl;rcases h.first with ⟨n,g1,g2,_⟩|⟨_,rfl⟩
 ·exact az g2 g1
 have O1:YS.Ok ⟨fU 1 100 [cA],0,0,[]⟩:=fU.ok mO.cA ρf kK.cA ρf ρf;have A1:AL (fU 1 100 [cA]) []:=by
  refine⟨rfl,rfl,rfl,λj=>⟨rfl,?_⟩,rfl⟩;show Go.Proofs.YtfdlemkplejdnaaGreat.kd (dL [cA] j).u0 (dL [cA] j).u1 (dL [cA] j).u2<2;unfold dL;cases e:fc [cA] j with
  | none=>decide
  | some c=>obtain⟨_,rfl⟩:=pX e;decide
 obtain⟨s2,A2,c2,O2,p2⟩:=A1.put O1 ρf (.inl rfl) d3;obtain⟨A3,c3,O3,l3,k3,a,e3⟩:=AL.pick A2 O2 (ZJ _) p2;have c2:s2.acc=0+100:=c2;have c3:y3.s.acc=s2.acc:=c3;have l3:y3.til=0+100:=l3;have k3:y3.clk=0:=k3;obtain⟨s4,A4,c4,O4,p4⟩:=A3.put O3 ρa (.inl rfl) d4;have hb:y4={y3 with s:=s4,ev:=y3.ev++[⟨3,true,false,y3.clk,0,1,pA⟩]}:=by
  cases p4 with
  | busy _=>rfl
  | idle g _=>exfalso;have g:y3.til<=y3.clk:=g;omega
  | pick g _ _ _ _=>exfalso;have g:y3.til<=y3.clk:=g;omega
 have hp:fN 3 {y3 with s:=s4,ev:=y3.ev++[⟨3,true,false,y3.clk,0,1,pA⟩]} {y3 with s:=s4,ev:=y3.ev++[⟨3,true,false,y3.clk,0,1,pA⟩]}:=.busy (by show y3.clk<y3.til;omega);have O5:=(hp.ok O4).1;have d5:bY 4 (y4.clk+150) y4 y:=d5 (by rw[hb];show (150:Int)<=4611686018427387904 - y3.clk;omega);have hk:y4.clk+150=150:=by rw[hb];show y3.clk+150=150;omega
 rw[hk,hb] at d5;obtain⟨b,e5⟩:=AL.rounds A4 O5 k3 (by show y3.til=100;omega) d5;refine⟨a,b,?_⟩;rw[e5];show (y3.ev++[⟨3,true,false,y3.clk,0,1,pA⟩])++_=_;rw[e3,k3];rfl
end Go.Proofs.YtfdlemkplejdnaaGreat
