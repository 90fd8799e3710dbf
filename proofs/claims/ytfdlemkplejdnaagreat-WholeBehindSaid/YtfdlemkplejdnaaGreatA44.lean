/- WholeBehind, part 44. Conditions: none. -/
import Derived.Test.YtfdlemkplejdnaaGreatA40
import Derived.Test.YtfdlemkplejdnaaGreatA43
namespace Go.Proofs.YtfdlemkplejdnaaGreat
open Go.RowKit Go.Sort
open Value renaming int->ι,pointer->ψ,slice->ζ,tuple->χ,agg->φ,map->μ,bool->β
open IntKind renaming u64->υ,i64->ε,u16->ω
open Ending renaming returned->ϰ
open Go.Proofs.Tryz renaming prog->Ψ,underlying3->Θ,underlying147->Δ,underlying152->Γ,underlying202->Φ,underlying39->Ξ,underlying207->Ω
open Go renaming World->ϖ,Value->ϗ
set_option linter.unusedVariables false
set_option linter.unusedSimpArgs false
set_option maxHeartbeats 8000000
set_option maxRecDepth 100000
def DL (ids:List Int)(L:List EV)(k n:Nat):Prop:=∀h,k<=h->h<k+n->eP ids (gU h L)≠0
theorem jO {ids:List Int} {f t:Int}:∀{L:List EV} {q:Nat},(∀c ∈ L,(c.inn=false->0<c.pk.len)/\c.pk.len<=16384)->0<=bA ids f t q L/\bA ids f t q L<=L.length*16384
 | [],q,_=>⟨ZJ _,by show (0:Int)<=_;simp⟩
 | e::r,q,h=>by
  have h1:=h e ρp;have h2:=jO (ids:=ids) (f:=f) (t:=t) (L:=r) (q:=q+1) (λc hc=>h c (by simp[hc]));simp only[bA,mM];split
  ·rename_i g;have:=h1.1 g.2.2.1;omega
  ·omega
theorem Bj (AL:tD)(T Lm i j:Int)(v:ϗ)(Os:List OI)(hc:∀x ∈ Os,∀c ∈ x.ch,CN c.2)(ht:∀x ∈ Os,0<=x.tk/\x.tk<=Ma)(w:ϖ)(B:Nat)(G:eC w B v Os):
  CB 5 #[φ #[ι ε T,ι ε Lm,v],ι ε i,ι ε j] w fJ:=by
 obtain⟨oa,oc,rfl,-⟩:=G.slice;have zB:B<=w:=G.base_le;obtain⟨n,hn⟩:=Nq Os.length;obtain⟨z,hz⟩:∃z,decide ((1<=T/\T<=65536/\1<=Lm/\Lm<=16384)/\(Os.length:Int)<=100/\∀y ∈ Os,y.ch.length<=40/\y.rl.length<=40)=z:=⟨_,rfl⟩;rw[hn] at G ⊢;have hR:∀u,eC u B (ζ oa n oc) Os->CB 7 #[φ #[ι ε T,ι ε Lm,ζ oa n oc],ι ε 100] u (β z):=λu h=>by have g:=Dq _ Os T Lm 100 ρa u B h;rw[hz] at g;exact g
 change Hid _ at hz hn;unfold CB;go_in;go_wp2_with fail;refine Jc (θ2 (Ks (λ_=>False) w) G) (λv=>ah v w #[ι ε T,ι ε Lm,ζ oa n oc] 26) ρB ?_;rintro v1 S1 ⟨F',G1⟩;have Rr:=S1.r;refine(Dm _ Os T Lm hc v1 B G1).mono ?_;rintro e v2 ⟨sa,sn,sc,m,rfl,hfx,kx⟩;clear Rr;obtain⟨⟨G2,S2,Iz⟩,Rr⟩:=Mx kx (θ3 G1 S1 F');clear kx;replace hfx:=ag hfx;by_cases cm:m=0
 rotate_left
 ·have dm:(m==0)=false:=ZN.2 cm;clear cm;go_wp2_with fail;refine Zc (θ3 Iz G2 S2) ?_;rintro v3 ⟨ID,G3,S3⟩;refine(hR v3 G3).mono ?_;rintro e v4 ⟨rfl,kx⟩;clear Rr;obtain⟨⟨G4,S4,IC⟩,Rr⟩:=Mx kx (θ3 G3 S3 ID);clear kx;cases z
  ·exact ξt
  ·exact ξt
 have dm:(m==0)=true:=by rw[cm];rfl
 obtain⟨x0,r,XK,Kx,hxr,M,HM,hSt,Wb,h32,hFit⟩:=hfx.out cm;clear hfx cm hFit;have M2:=ae.rd HM (λ_=>rfl);obtain⟨B1,Ug⟩:=Nq v2.heap.size;rw[Ug] at M2;clear Ug HM;obtain⟨_,_,e9,-⟩:=M2.slice;obtain⟨rfl,rfl,rfl⟩:=ZV e9;clear e9;obtain⟨mn,Mz⟩:=Nq M.length;rw[Mz] at M2 ⊢;change Hid _ at hSt hxr XK;go_wp2_with fail;refine Zc (θ4 Iz G2 S2 M2) ?_;rintro v3 ⟨ID,G3,S3,M3⟩;refine(hR v3 G3).mono ?_;rintro e v4 ⟨rfl,kx⟩;clear Rr;obtain⟨⟨G4,S4,M4,IC⟩,Rr⟩:=Mx kx (θ4 G3 S3 M3 ID);clear kx;cases z
 ·exact ξt
 by_cases cij:i=j
 ·have dij:(i==j)=true:=by rw[cij];exact beq_self_eq_true _
  clear cij;exact ξt
 have dij:(i==j)=false:=ZN.2 cij;clear cij;obtain⟨⟨hT1,hT2,Sl,Lh⟩,IS,Jq⟩:=of_decide_eq_true hz.out;have hmnl:mn<=1000:=by rw[<- Mz];exact hSt.out.len h32
 have hMw:∀c ∈ M,WC c=0/\CN c:=(fK.nil.steps eY.nil ρa τs hSt.out).2.2.wc;have hRun:∀u,eC u B (ζ oa n oc) Os->Calls Ψ 9 #[φ #[ι ε T,ι ε Lm,ζ oa n oc]] u λe w'=>∃rs ev y,e=ϰ (χ #[φ #[rs,ev],Kz])/\DN T Lm x0.ch M x0 r y/\cD w' u ev y.ev/\(∃ra rn rc,rs=ζ ra rn rc)/\Below u u w':=λu h=>Fm T Lm ⟨hT1,hT2⟩ ⟨Sl,Lh⟩ x0 r M _ B u (by rw[<- XK.out];exact h) Kx τS (by rw[<- XK.out];omega) τs hSt.out h32;change Hid _ at IS Jq Mz Kx hMw;clear hz hR;go_wp2_with fail;refine Zc (θ4 IC G4 S4 M4) ?_;rintro v5 ⟨IN,G5,S5,M5⟩;refine(kf _ M i v5 B1 M5 κd).mono ?_;rintro e v6 ⟨ia,rfl,hia,kx⟩;clear Rr;obtain⟨⟨G6,S6,M6,IQ⟩,Rr⟩:=Mx kx (θ4 G5 S5 M5 IN);clear kx;replace hia:=ag hia;go_wp2_with fail;refine Zc (θ4 IQ G6 S6 M6) ?_;rintro v7 ⟨I8,G7,S7,M7⟩;refine(kf _ M j v7 B1 M7 κd).mono ?_;rintro e v8 ⟨ja,rfl,hja,kx⟩;clear Rr;obtain⟨⟨G8,S8,M8,Je⟩,Rr⟩:=Mx kx (θ4 G7 S7 M7 I8);clear kx;replace hja:=ag hja;by_cases c1:ia<0
 ·have d1:=ZT c1;exact ξU
 have d1:=ZF c1;by_cases c2:ja<0
 ·have d2:=ZT c2;exact ξU
 have d2:=ZF c2;obtain⟨ka,a,rfl,I3,hfa⟩:=hia.out.resolve_left (λh=>by omega);obtain⟨kb,b,rfl,Jx,hfb⟩:=hja.out.resolve_left (λh=>by omega);clear hia hja c1 c2;have hna:ka<mn:=by rw[<- Mz.out];exact(List.getElem?_eq_some_iff.1 I3).1
 have hnb:kb<mn:=by rw[<- Mz.out];exact(List.getElem?_eq_some_iff.1 Jx).1
 have hla:(ka:Int)<(mn:Int):=ρa;have Vi:(kb:Int)<(mn:Int):=ρa;obtain⟨g0,II,rfl,hg,-⟩:=M8.at I3;have hcA:=hMw.out a (List.mem_of_getElem? I3);have hcB:=hMw.out b (List.mem_of_getElem? Jx);obtain⟨hwA,hnA⟩:=hcA;obtain⟨hwB,hnB⟩:=hcB;have hciA:iO a.l0 a.l1 a.l2:=iO.of hnA.2.1.1 hnA.2.1.2.1 hnA.2.1.2.2 (WC.facts hwA).2.2.2.2.1;have hciB:iO b.l0 b.l1 b.l2:=iO.of hnB.2.1.1 hnB.2.1.2.1 hnB.2.1.2.2 (WC.facts hwB).2.2.2.2.1;have la0:0<=a.l0:=hnA.2.1.1;have la1:0<=a.l1:=hnA.2.1.2.1;have la2:0<=a.l2:=hnA.2.1.2.2;have lb0:0<=b.l0:=hnB.2.1.1;have lb1:0<=b.l1:=hnB.2.1.2.1;have lb2:0<=b.l2:=hnB.2.1.2.2;obtain⟨qa,hqa⟩:=Nq (kd a.l0 a.l1 a.l2);obtain⟨qb,hqb⟩:=Nq (kd b.l0 b.l1 b.l2);change Hid _ at I3 Jx hfa hfb hqa hqb hciA hciB;have K7:=(az.cell M8 I3.out 1 (u:=ι ε a.par) rfl);have K8:=(az.cell M8 Jx.out 1 (u:=ι ε b.par) rfl);have KH:=(az.cell M8 I3.out 8 (u:=a.l2) rfl);have K9:=(az.cell M8 Jx.out 8 (u:=b.l2) rfl);have Na:g0<v8:=by have h:B1<=v8:=(by obtain⟨_,_,_,_,h,_⟩:=M8;exact h);omega
 by_cases c3:a.par=b.par
 rotate_left
 ·have d3:(a.par !=b.par)=true:=by simpa using c3
  go_upto_region 6 with (fail);refine η1 ?_;clear Rr K7 K8 KH K9;intro v9 Jl G9 S9 M9 Rr K7 K8 KH K9 qS WU WV WW WX;refine pe ?_;exact ξg
 have d3:(a.par !=b.par)=false:=by simp[c3]
 replace c3:=ag c3;by_cases c4:qa=2
 rotate_left
 ·have d4:(qa !=2)=true:=by simpa using c4
  go_upto_region 6 with (fail);refine η1 ?_;clear Rr K7 K8 KH K9;intro v9 Jl G9 S9 M9 Rr K7 K8 KH K9 qS WU WV WW WX
  iterate 24 (go_big_quiet_step (fail))
  refine dD 41 (.tmp 72) g0 (II+ka*14+6) [a.l0,a.l1,a.l2] _ rfl rfl ρr (λw' hb=>dE (az.rng (az.below M9 hb) I3.out) 6 3 rfl) Tryz.underlying41 rfl ρh ?_;(try simp only[Act.put,List.setIfInBounds_toArray,List.set_cons_succ,List.set_cons_zero]);go_big_quiet_step ((go_at_call 10;(with_reducible exact bT (bi a.l0 a.l1 a.l2 qa _ la0 la1 la2 hqa.out))))
  repeat (go_big_quiet_step (fail))
  exact ξg
 have d4:(qa !=2)=false:=by simp[c4]
 replace c4:=ag c4;by_cases c5:qb=2
 rotate_left
 ·have d5:(qb !=2)=true:=by simpa using c5
  go_upto_region 6 with (fail);refine η1 ?_;clear Rr K7 K8 KH K9;intro v9 Jl G9 S9 M9 Rr K7 K8 KH K9 qS WU WV WW WX
  iterate 24 (go_big_quiet_step (fail))
  refine dD 41 (.tmp 72) g0 (II+ka*14+6) [a.l0,a.l1,a.l2] _ rfl rfl ρr (λw' hb=>dE (az.rng (az.below M9 hb) I3.out) 6 3 rfl) Tryz.underlying41 rfl ρh ?_;(try simp only[Act.put,List.setIfInBounds_toArray,List.set_cons_succ,List.set_cons_zero]);go_big_quiet_step ((go_at_call 10;(with_reducible exact bT (bi a.l0 a.l1 a.l2 qa _ la0 la1 la2 hqa.out))))
  iterate 7 (go_big_quiet_step (fail))
  refine dD 41 (.tmp 81) g0 (II+kb*14+6) [b.l0,b.l1,b.l2] _ rfl rfl ρr (λw' hb=>dE (az.rng (az.below M9 hb) Jx.out) 6 3 rfl) Tryz.underlying41 rfl ρh ?_;(try simp only[Act.put,List.setIfInBounds_toArray,List.set_cons_succ,List.set_cons_zero]);go_big_quiet_step ((go_at_call 10;(with_reducible exact bT (bi b.l0 b.l1 b.l2 qb _ lb0 lb1 lb2 hqb.out))))
  repeat (go_big_quiet_step (fail))
  exact ξg
 have d5:(qb !=2)=false:=by simp[c5]
 replace c5:=ag c5;go_upto_region 6 with (fail);refine η1 ?_;clear Rr K7 K8 KH K9;intro v9 Jl G9 S9 M9 Rr K7 K8 KH K9 qS WU WV WW WX
 iterate 24 (go_big_quiet_step (fail))
 refine dD 41 (.tmp 72) g0 (II+ka*14+6) [a.l0,a.l1,a.l2] _ rfl rfl ρr (λw' hb=>dE (az.rng (az.below M9 hb) I3.out) 6 3 rfl) Tryz.underlying41 rfl ρh ?_;(try simp only[Act.put,List.setIfInBounds_toArray,List.set_cons_succ,List.set_cons_zero]);go_big_quiet_step ((go_at_call 10;(with_reducible exact bT (bi a.l0 a.l1 a.l2 qa _ la0 la1 la2 hqa.out))))
 iterate 7 (go_big_quiet_step (fail))
 refine dD 41 (.tmp 81) g0 (II+kb*14+6) [b.l0,b.l1,b.l2] _ rfl rfl ρr (λw' hb=>dE (az.rng (az.below M9 hb) Jx.out) 6 3 rfl) Tryz.underlying41 rfl ρh ?_;(try simp only[Act.put,List.setIfInBounds_toArray,List.set_cons_succ,List.set_cons_zero]);go_big_quiet_step ((go_at_call 10;(with_reducible exact bT (bi b.l0 b.l1 b.l2 qb _ lb0 lb1 lb2 hqb.out))))
 repeat (go_big_quiet_step (fail))
 refine bF (θ4 G9 S9 M9 Jl) ?_;clear Rr;rintro Lj ⟨Qw,S10,OZ,I7⟩ Rr;replace K7:=(az.cell OZ I3.out 1 (u:=ι ε a.par) rfl);replace K8:=(az.cell OZ Jx.out 1 (u:=ι ε b.par) rfl);replace KH:=(az.cell OZ I3.out 8 (u:=a.l2) rfl);replace K9:=(az.cell OZ Jx.out 8 (u:=b.l2) rfl);clear qS WU WV WW WX G9 S9 M9;go_wp2_with fail;refine kL (θ4 I7 Qw S10 OZ) ?_;clear Rr;rintro JR ⟨Jn,Qc,TP,Rq⟩ Rr;replace K7:=(az.cell Rq I3.out 1 (u:=ι ε a.par) rfl);replace K8:=(az.cell Rq Jx.out 1 (u:=ι ε b.par) rfl);replace KH:=(az.cell Rq I3.out 8 (u:=a.l2) rfl);replace K9:=(az.cell Rq Jx.out 8 (u:=b.l2) rfl);refine(Dr _ M a.par (λc Jj=>(hMw.out c Jj).2) JR B1 Rq κd).mono ?_;rintro e Mj ⟨s,rfl,Ka,MD,kx⟩;clear Rr;obtain⟨⟨Ou,Xp,Tc,Jk⟩,Rr⟩:=Mx kx (θ4 Qc TP Rq Jn);replace K7:=(az.cell Tc I3.out 1 (u:=ι ε a.par) rfl);replace K8:=(az.cell Tc Jx.out 1 (u:=ι ε b.par) rfl);replace KH:=(az.cell Tc I3.out 8 (u:=a.l2) rfl);replace K9:=(az.cell Tc Jx.out 8 (u:=b.l2) rfl);clear kx;replace MD:=ag MD;by_cases c6:s=0
 ·have d6:(s==0)=true:=by rw[c6];rfl
  clear c6;go_wp2_with fail;refine Zc Jk ?_;rintro NO JM;refine(AL NO).mono ?_;rintro e RW ⟨rfl,kx⟩;have Mh:KO (λ_=>False) w RW:=JM.step0 kx;clear kx;go_wp2;go_ret;exact⟨rfl,Mh.toBelow.trans ρE⟩
 have d6:(s==0)=false:=ZN.2 c6;have Ju:1<=s/\s<=Me:=ρa;replace MD:=ag (MD.out c6);clear c6;go_wp2_with fail;refine kL (θ4 Jk Ou Xp Tc) ?_;clear Rr;rintro NO ⟨JM,UU,S13,VJ⟩ Rr;replace K7:=(az.cell VJ I3.out 1 (u:=ι ε a.par) rfl);replace K8:=(az.cell VJ Jx.out 1 (u:=ι ε b.par) rfl);replace KH:=(az.cell VJ I3.out 8 (u:=a.l2) rfl);replace K9:=(az.cell VJ Jx.out 8 (u:=b.l2) rfl);refine(hRun NO UU).mono ?_;rintro e RW ⟨rs,ev,y,rfl,hY,HE,hrs,kx⟩;clear Rr;obtain⟨⟨YK,S14,YQ,Mh⟩,Rr⟩:=Mx kx (θ4 UU S13 VJ JM);replace K7:=(az.cell YQ I3.out 1 (u:=ι ε a.par) rfl);replace K8:=(az.cell YQ Jx.out 1 (u:=ι ε b.par) rfl);replace KH:=(az.cell YQ I3.out 8 (u:=a.l2) rfl);replace K9:=(az.cell YQ Jx.out 8 (u:=b.l2) rfl);clear kx;obtain⟨ra,rn,rc,rfl⟩:=hrs;have E14:=ae.rd HE (λ_=>rfl);obtain⟨B4,XF⟩:=Nq RW.heap.size;rw[XF] at E14;replace XF:=ag XF;clear HE hRun;obtain⟨L,hL⟩:=Nq y.ev;obtain⟨ea,ec,rfl,-⟩:=E14.slice;have Zy:L.length<=1000:=by have:=hY.ev;have h2:=IS.out;rw[XK.out] at h2;simp at h2;rw[<- hL];omega
 have hF:=wE hY.two hY.R ρa hY.l2 ⟨hT1,hT2⟩ ⟨Sl,Lh⟩ hY.run hfa.out hfb.out c3.out.symm (hqa.out.trans c4.out) (hqb.out.trans c5.out) Ju.1 MD.out;obtain⟨Lw,hF⟩:=hF;have LA:∀e ∈ L,(e.inn=false->0<e.pk.len)/\e.pk.len<=16384:=by rw[<- hL];exact λe he=>⟨Lw e he,hY.len e he⟩
 rw[hL] at hF;have Nr:r.length+1=n:=by rw[<- hn.out,XK.out];simp
 have hn100:n<=100:=by have:=IS.out;rw[hn.out] at this;omega
 rw[hL] at E14 ⊢;obtain⟨en,NC⟩:=Nq L.length;rw[NC] at E14 ⊢;change Hid _ at hL hY NC LA hF;clear Lw;have Wi:en<=1000:=by rw[<- NC.out];exact Zy
 go_upto_region 12 with fail;refine jf (θ5 Mh YK S14 YQ E14) (λv=>ah v RW #[ζ ra rn rc,ζ ea en ec] 35) ρB ?_;clear Rr;rintro v15 Y15 ⟨OR,G15,S15,M15,E15⟩ Rr;have Ss:=Y15.r;replace K7:=(az.cell M15 I3.out 1 (u:=ι ε a.par) rfl);replace K8:=(az.cell M15 Jx.out 1 (u:=ι ε b.par) rfl);replace KH:=(az.cell M15 I3.out 8 (u:=a.l2) rfl);replace K9:=(az.cell M15 Jx.out 8 (u:=b.l2) rfl);obtain⟨W6,rfl⟩:∃W:ϖ,W=RW:=⟨_,rfl⟩;go_wp2_with fail;refine kL (θ6 OR G15 S15 M15 E15 Y15) ?_;clear Rr Ss;rintro v16 ⟨Uw,G16,S16,M16,E16,Y16⟩ Rr;replace K7:=(az.cell M16 I3.out 1 (u:=ι ε a.par) rfl);replace K8:=(az.cell M16 Jx.out 1 (u:=ι ε b.par) rfl);replace KH:=(az.cell M16 I3.out 8 (u:=a.l2) rfl);replace K9:=(az.cell M16 Jx.out 8 (u:=b.l2) rfl);refine(xn _ M i v16 B1 M16 κd).mono ?_;rintro e v17 ⟨px,rfl,HP,kx⟩;clear Rr;obtain⟨⟨G17,S17,M17,E17,Y17,Ux⟩,Rr⟩:=Mx kx (θ6 G16 S16 M16 E16 Y16 Uw);replace K7:=(az.cell M17 I3.out 1 (u:=ι ε a.par) rfl);replace K8:=(az.cell M17 Jx.out 1 (u:=ι ε b.par) rfl);replace KH:=(az.cell M17 I3.out 8 (u:=a.l2) rfl);replace K9:=(az.cell M17 Jx.out 8 (u:=b.l2) rfl);clear kx;have KE:(bG i M M).length<=1000:=by have:=kX i M M;rw[Mz.out] at this;omega
 have P17:=ae.rd HP (λ_=>rfl);obtain⟨BP,hBP⟩:=Nq v17.heap.size;rw[hBP] at P17;clear hBP HP;obtain⟨Ps,hPs⟩:=Nq (bG i M M);rw[hPs] at P17;obtain⟨ppa,ppc,rfl,-⟩:=P17.slice;obtain⟨ppn,Ut⟩:=Nq Ps.length;rw[Ut] at P17 ⊢;change Hid _ at Ut hPs;rw[hPs.out,Ut.out] at KE;go_wp2_with fail;refine kL (θ7 Ux G17 S17 M17 E17 Y17 P17) ?_;clear Rr;rintro v18 ⟨k018,G18,S18,M18,E18,Y18,P18⟩ Rr;replace K7:=(az.cell M18 I3.out 1 (u:=ι ε a.par) rfl);replace K8:=(az.cell M18 Jx.out 1 (u:=ι ε b.par) rfl);replace KH:=(az.cell M18 I3.out 8 (u:=a.l2) rfl);replace K9:=(az.cell M18 Jx.out 8 (u:=b.l2) rfl);refine(xn _ M j v18 B1 M18 κd).mono ?_;rintro e v19 ⟨qx,rfl,HQ,kx⟩;clear Rr;obtain⟨⟨G19,S19,M19,E19,Y19,P19,WL⟩,Rr⟩:=Mx kx (θ7 G18 S18 M18 E18 Y18 P18 k018);replace K7:=(az.cell M19 I3.out 1 (u:=ι ε a.par) rfl);replace K8:=(az.cell M19 Jx.out 1 (u:=ι ε b.par) rfl);replace KH:=(az.cell M19 I3.out 8 (u:=a.l2) rfl);replace K9:=(az.cell M19 Jx.out 8 (u:=b.l2) rfl);clear kx;have hql:(bG j M M).length<=1000:=by have:=kX j M M;rw[Mz.out] at this;omega
 have Zd:=ae.rd HQ (λ_=>rfl);obtain⟨BQ,hBQ⟩:=Nq v19.heap.size;rw[hBQ] at Zd;clear hBQ HQ;obtain⟨Qs,hQs⟩:=Nq (bG j M M);rw[hQs] at Zd;obtain⟨qqa,qqc,rfl,-⟩:=Zd.slice;obtain⟨qqn,Wz⟩:=Nq Qs.length;rw[Wz] at Zd ⊢;change Hid _ at Wz hQs;rw[hQs.out,Wz.out] at hql;go_wp2_with fail;refine kL (θ8 WL G19 S19 M19 E19 Y19 P19 Zd) ?_;clear Rr;rintro v20 ⟨Uy,G20,S20,M20,E20,Y20,P20,Q20⟩ Rr;replace K7:=(az.cell M20 I3.out 1 (u:=ι ε a.par) rfl);replace K8:=(az.cell M20 Jx.out 1 (u:=ι ε b.par) rfl);replace KH:=(az.cell M20 I3.out 8 (u:=a.l2) rfl);replace K9:=(az.cell M20 Jx.out 8 (u:=b.l2) rfl);refine(xo _ _ L Ps v20 B4 BP E20 (by rw[NC.out];exact Wi) P20 (by rw[Ut.out];exact KE)).mono ?_;rintro e v21 ⟨vx,rfl,HV,kx⟩;clear Rr;obtain⟨⟨G21,Xq,YR,E21,Y21,P21,Q21,NH⟩,Rr⟩:=Mx kx (θ8 G20 S20 M20 E20 Y20 P20 Q20 Uy);replace K7:=(az.cell YR I3.out 1 (u:=ι ε a.par) rfl);replace K8:=(az.cell YR Jx.out 1 (u:=ι ε b.par) rfl);replace KH:=(az.cell YR I3.out 8 (u:=a.l2) rfl);replace K9:=(az.cell YR Jx.out 8 (u:=b.l2) rfl);clear kx;have hVl:(eG Ps 0 L).length=en+1:=by rw[jM,NC.out]
 have Xu:=ae.rd HV (λ_=>rfl);obtain⟨BV,hBV⟩:=Nq v21.heap.size;rw[hBV] at Xu;clear hBV HV;obtain⟨Vs,hVs⟩:=Nq (eG Ps 0 L);rw[hVs] at Xu;obtain⟨vva,vvc,rfl,-⟩:=Xu.slice;obtain⟨vvn,WI⟩:=Nq Vs.length;rw[WI] at Xu ⊢;change Hid _ at WI hVs;rw[hVs.out,WI.out] at hVl;subst hVl;obtain⟨gv,ov,rfl⟩:=Xu.some (λe=>by have h:=WI.out;rw[e] at h;simp at h);have hmr:0<=a.l2/\a.l2<=Md:=hciA.out.2.2.2;have Wr:0<=b.l2/\b.l2<=Md:=hciB.out.2.2.2;have hgr:=yx (s:=Lm*65536) (m:=s) ρx Ju.1;obtain⟨g9,hg9⟩:=Nq (up (Lm*65536) s);rw[hg9] at hgr;obtain⟨mm,PG⟩:=Nq (a.l2*b.l2);have hmmr:0<=mm/\mm<=Md*Md:=by rw[<- PG];exact⟨Int.mul_nonneg hmr.1 Wr.1,Int.mul_le_mul hmr.2 Wr.2 Wr.1 ρa⟩
 obtain⟨g8,hg8⟩:=Nq (2*g9+2);obtain⟨Mo,hMo⟩:=Nq (mm*g8);have hMor:0<=Mo/\Mo<=(Md*Md)*Me:=by rw[<- hMo];exact⟨Int.mul_nonneg hmmr.1 ρa,Int.mul_le_mul hmmr.2 ρa ρa ρa⟩
 have Mo128:ai Mo:=ρx;have XJ:∀u,CB 21 #[a.l2,b.l2,ι ε Lm,s] u (nv Mo):=λu=>by have h:=Ap a.l2 b.l2 Lm s u hmr Wr ⟨Sl,Lh⟩ Ju;rw[hg9,PG,hg8,hMo] at h;exact h
 change Hid _ at hg9 PG hg8 hMo;go_wp2_with fail;refine kL (θ9 NH G21 Xq YR E21 Y21 P21 Q21 Xu) ?_;clear Rr;rintro OT ⟨Lf,Px,Ow,YT,Ot,Y22,P22,Q22,V22⟩ Rr;replace K7:=(az.cell YT I3.out 1 (u:=ι ε a.par) rfl);replace K8:=(az.cell YT Jx.out 1 (u:=ι ε b.par) rfl);replace KH:=(az.cell YT I3.out 8 (u:=a.l2) rfl);replace K9:=(az.cell YT Jx.out 8 (u:=b.l2) rfl);refine(XJ OT).mono ?_;rintro e YB ⟨rfl,kx⟩;clear Rr;obtain⟨⟨Xl,TR,YU,SV,Y23,P23,Q23,V23,NI⟩,Rr⟩:=Mx kx (θ9 Px Ow YT Ot Y22 P22 Q22 V22 Lf);replace K7:=(az.cell YU I3.out 1 (u:=ι ε a.par) rfl);replace K8:=(az.cell YU Jx.out 1 (u:=ι ε b.par) rfl);replace KH:=(az.cell YU I3.out 8 (u:=a.l2) rfl);replace K9:=(az.cell YU Jx.out 8 (u:=b.l2) rfl);clear kx;go_upto_region 19 with fail;refine jf (θ9 NI Xl TR YU SV Y23 P23 Q23 V23) (λv=>ah v YB (bv Mo) 70) ρB ?_;clear Rr;rintro v24 O24 ⟨SD,YL,VT,Xn,VC,Y24,P24,Q24,V24⟩ Rr;have Ss:=O24.r;replace K7:=(az.cell Xn I3.out 1 (u:=ι ε a.par) rfl);replace K8:=(az.cell Xn Jx.out 1 (u:=ι ε b.par) rfl);replace KH:=(az.cell Xn I3.out 8 (u:=a.l2) rfl);replace K9:=(az.cell Xn Jx.out 8 (u:=b.l2) rfl);obtain⟨W7,rfl⟩:∃W:ϖ,W=YB:=⟨_,rfl⟩;clear XJ;go_wp2_with fail;go_loopw [135] (λk wr=>∃K:Nat,k=ι ε K/\K<=n/\eC wr B (ζ oa n oc) Os/\ah wr w #[ι ε T,ι ε Lm,ζ oa n oc] 26/\az 14 dR wr B1 (ζ (some ⟨g0,II,none⟩) mn sc) M/\az 12 mQ wr B4 (ζ ea en ec) L/\ah wr W6 #[ζ ra rn rc,ζ ea en ec] 35/\az 1 (λx:Int=>[Value.int .i64 x]) wr BP (ζ ppa ppn ppc) Ps/\az 1 (λx:Int=>[Value.int .i64 x]) wr BQ (ζ qqa qqn qqc) Qs/\az 1 (λx:Int=>[Value.int .i64 x]) wr BV (ζ (some ⟨gv,ov,none⟩) (en+1) vvc) Vs/\ah wr W7 (bv Mo) 70/\KO (λ_=>False) w wr) (λk _=>n - (intOf k).toNat);case atStart=>exact⟨0,rfl,by omega,YL.below ρE,ρB,Xn.below ρE,VC.below ρE,ρB,P24.below ρE,Q24.below ρE,V24.below ρE,ρB,SD.step0 ρE⟩
 case round=>
  obtain⟨K,rfl,hK,G0,S0,M0,E0,Y0,P0,Q0,V0,O0,IB⟩:=hrel;have zw:=IB.size;clear YL VT Xn VC Y24 P24 Q24 V24 O24 SD;obtain⟨W,rfl⟩:∃W:ϖ,W=wr:=⟨_,rfl⟩;clear Ss;replace Rr:=θ3 S0.r Y0.r O0.r;replace K7:=(az.cell M0 I3.out 1 (u:=ι ε a.par) rfl);replace K8:=(az.cell M0 Jx.out 1 (u:=ι ε b.par) rfl);replace KH:=(az.cell M0 I3.out 8 (u:=a.l2) rfl);replace K9:=(az.cell M0 Jx.out 8 (u:=b.l2) rfl);by_cases c7:K<n
  rotate_left
  ·have d7:=ZF c7;have d7':=df ((K:Int)<(n:Int));clear c7;go_wp2_with fail;refine Zc IB ?_;rintro v1 F';refine(AL v1).mono ?_;rintro e v2 ⟨rfl,kx⟩;have Iz:KO (λ_=>False) w v2:=F'.step0 kx;clear kx;exact ηo
  have d7:=ZT c7;have d7':=dt ((K:Int)<(n:Int));have hfr:=iy ((K:Int)+1) L;rw[NC.out] at hfr;obtain⟨f,hf⟩:∃f:Nat,bZ ((K:Int)+1) L=f:=⟨(bZ ((K:Int)+1) L).toNat,by omega⟩;rw[hf] at hfr;have Aa:∀(m:Int) u,az 12 mQ u B4 (ζ ea en ec) L->CB 22 #[ζ ea en ec,ι ε m] u (ι ε (bZ m L)):=λm u h=>by have g:=Fp _ L m u B4 h (by rw[NC.out];exact Wi);exact g
  have hUf:∀u,az 12 mQ u B4 (ζ ea en ec) L->CB 22 #[ζ ea en ec,ι ε ((K:Int)+1)] u (ι ε (f:Int)):=λu h=>by have g:=Aa ((K:Int)+1) u h;rw[hf] at g;exact g
  have c7':=ag c7;replace hf:=ag hf;clear c7;go_wp2_with fail;refine kL (θ9 IB G0 S0 M0 E0 Y0 P0 Q0 (θ2 V0 O0)) ?_;clear Rr;rintro v1 ⟨F',G1,S1,M1,E1,Y1,P1,Q1,V1,O1⟩ Rr;replace K7:=(az.cell M1 I3.out 1 (u:=ι ε a.par) rfl);replace K8:=(az.cell M1 Jx.out 1 (u:=ι ε b.par) rfl);replace KH:=(az.cell M1 I3.out 8 (u:=a.l2) rfl);replace K9:=(az.cell M1 Jx.out 8 (u:=b.l2) rfl);refine(hUf _ E1).mono ?_;rintro e v2 ⟨rfl,kx⟩;clear Rr;obtain⟨⟨G2,S2,M2,E2,Y2,P2,Q2,V2,O2,Iz⟩,Rr⟩:=Mx kx (θ9 G1 S1 M1 E1 Y1 P1 Q1 V1 (θ2 O1 F'));replace K7:=(az.cell M2 I3.out 1 (u:=ι ε a.par) rfl);replace K8:=(az.cell M2 Jx.out 1 (u:=ι ε b.par) rfl);replace KH:=(az.cell M2 I3.out 8 (u:=a.l2) rfl);replace K9:=(az.cell M2 Jx.out 8 (u:=b.l2) rfl);clear kx;clear hUf;have ME:((n - K:Nat):Int)=(n:Int) - (K:Int):=ρa;go_wp2_with fail;go_loopw [147] (λk wr=>∃R:Nat,k=ι ε R/\R<=n - K/\DL Ps L K R/\eC wr B (ζ oa n oc) Os/\ah wr w #[ι ε T,ι ε Lm,ζ oa n oc] 26/\az 14 dR wr B1 (ζ (some ⟨g0,II,none⟩) mn sc) M/\az 12 mQ wr B4 (ζ ea en ec) L/\ah wr W6 #[ζ ra rn rc,ζ ea en ec] 35/\az 1 (λx:Int=>[Value.int .i64 x]) wr BP (ζ ppa ppn ppc) Ps/\az 1 (λx:Int=>[Value.int .i64 x]) wr BQ (ζ qqa qqn qqc) Qs/\az 1 (λx:Int=>[Value.int .i64 x]) wr BV (ζ (some ⟨gv,ov,none⟩) (en+1) vvc) Vs/\ah wr W7 (bv Mo) 70/\KO (λ_=>False) w wr) (λk _=>(n - K) - (intOf k).toNat);case atStart=>exact⟨0,rfl,by omega,λh h1 h2=>ax h2 ρa,G2.below ρE,ρB,M2.below ρE,E2.below ρE,ρB,P2.below ρE,Q2.below ρE,V2.below ρE,ρB,Iz.step0 ρE⟩
  case round=>
   obtain⟨R,rfl,hR,Sk,G5,S5,M5,E5,Y5,P5,Q5,V5,O5,IN⟩:=hrel;have zr:=IN.size;clear G2 S2 M2 E2 Y2 P2 Q2 V2 O2 Iz;replace Rr:=θ3 S5.r Y5.r O5.r;replace K7:=(az.cell M5 I3.out 1 (u:=ι ε a.par) rfl);replace K8:=(az.cell M5 Jx.out 1 (u:=ι ε b.par) rfl);replace KH:=(az.cell M5 I3.out 8 (u:=a.l2) rfl);replace K9:=(az.cell M5 Jx.out 8 (u:=b.l2) rfl);replace Sk:=ag Sk;by_cases c8:R<n - K
   rotate_left
   ·have d8:=df ((R:Int)<(n:Int) - (K:Int));clear c8;go_wp2;go_roundw;case rel=>exact⟨K+1,by go_num,by have:=c7'.out;omega,G5.below ρE,ρB,M5.below ρE,E5.below ρE,ρB,P5.below ρE,Q5.below ρE,V5.below ρE,ρB,IN.step0 ρE⟩
    case measure=>have:=c7'.out;simp[intOf] at*;omega
   have d8:=dt ((R:Int)<(n:Int) - (K:Int));have c8':=ag c8;have htr:=iy ((K:Int)+(R:Int)+1) L;rw[NC.out] at htr;obtain⟨t,QV⟩:∃t:Nat,bZ ((K:Int)+(R:Int)+1) L=t:=⟨(bZ ((K:Int)+(R:Int)+1) L).toNat,by omega⟩;rw[QV] at htr;have hUt:∀u,az 12 mQ u B4 (ζ ea en ec) L->CB 22 #[ζ ea en ec,ι ε ((K:Int)+(R:Int)+1)] u (ι ε (t:Int)):=λu h=>by have g:=Aa ((K:Int)+(R:Int)+1) u h;rw[QV] at g;exact g
   replace QV:=ag QV;go_wp2_with fail;refine kL (θ9 IN G5 S5 M5 E5 Y5 P5 Q5 (θ2 V5 O5)) ?_;clear Rr;rintro v6 ⟨IQ,G6,S6,M6,E6,Y6,P6,Q6,V6,O6⟩ Rr;replace K7:=(az.cell M6 I3.out 1 (u:=ι ε a.par) rfl);replace K8:=(az.cell M6 Jx.out 1 (u:=ι ε b.par) rfl);replace KH:=(az.cell M6 I3.out 8 (u:=a.l2) rfl);replace K9:=(az.cell M6 Jx.out 8 (u:=b.l2) rfl);refine(hUt _ E6).mono ?_;rintro e v7 ⟨rfl,kx⟩;clear Rr;obtain⟨⟨G7,S7,M7,E7,Y7,P7,Q7,V7,O7,I8⟩,Rr⟩:=Mx kx (θ9 G6 S6 M6 E6 Y6 P6 Q6 V6 (θ2 O6 IQ));replace K7:=(az.cell M7 I3.out 1 (u:=ι ε a.par) rfl);replace K8:=(az.cell M7 Jx.out 1 (u:=ι ε b.par) rfl);replace KH:=(az.cell M7 I3.out 8 (u:=a.l2) rfl);replace K9:=(az.cell M7 Jx.out 8 (u:=b.l2) rfl);clear kx;clear hUt;have hvf:Vs[f]?=some (eP Ps (L.take f)):=by rw[<- hVs.out];exact iH Ps L 0 f (by rw[NC.out];omega)
   have QW:Vs[t]?=some (eP Ps (L.take t)):=by rw[<- hVs.out];exact iH Ps L 0 t (by rw[NC.out];omega)
   obtain⟨xf,hxf⟩:=Nq (eP Ps (L.take f));obtain⟨xt,hxt⟩:=Nq (eP Ps (L.take t));rw[hxf] at hvf;rw[hxt] at QW;have hcut:gU (K+R) L=L.take t:=by unfold gU;rw[show ((K+R:Nat):Int)+1=(K:Int)+(R:Int)+1 by omega,QV.out,Int.toNat_natCast]
   have bf:v7.cell? ⟨gv,ov+f,none⟩=some (ι ε xf):=by have h:=V7.rng hvf 0 _ rfl;rw[Nat.mul_one] at h;exact h
   have bt:v7.cell? ⟨gv,ov+t,none⟩=some (ι ε xt):=by have h:=V7.rng QW 0 _ rfl;rw[Nat.mul_one] at h;exact h
   have hgv:gv<v7:=by obtain⟨_,_,e8,h8,_⟩:=V7.at hvf;cases e8;have h9:BV<=v7:=(by obtain⟨_,_,_,_,h,_⟩:=V7;exact h);omega
   have lf:(f:Int)<((en+1:Nat):Int):=ρa;have lt:(t:Int)<((en+1:Nat):Int):=ρa;have lf':(f:Int)<(en:Int)+1:=ρa;have lt':(t:Int)<(en:Int)+1:=ρa;change Hid _ at hvf QW hxf hxt hcut;by_cases c9:xf=0
   ·have d9:(xf==0)=true:=by rw[c9];rfl
    replace c9:=ag c9;clear c8;exact ξ2
   have d9:(xf==0)=false:=ZN.2 c9;by_cases c10:xt=0
   ·have d10:(xt==0)=true:=by rw[c10];rfl
    change Hid _ at c10 c9;clear c8;exact ξ2
   have d10:(xt==0)=false:=ZN.2 c10;have Uf:DL Ps L K (R+1):=λh h1 h2=>by
    by_cases e:h<K+R
    ·exact Sk.out h h1 e
    ·have:h=K+R:=by omega
     subst this;rw[hcut.out,hxt.out];exact c10
   have QO:=hF.out K (K+R) ρa (by have:=c8'.out;omega) (λh h1 h2=>by rw[hPs.out];exact Uf h h1 ρa);obtain⟨t1,QU⟩:=Nq ((t:Int) - 1);unfold nH at QO;rw[hQs.out,hPs.out,show ((K+R:Nat):Int)+1=(K:Int)+(R:Int)+1 by omega,QV.out,hf.out,QU] at QO;have hrp:=jO (ids:=Ps) (f:=(f:Int)) (t:=t1) (q:=0) LA.out;have hrq:=jO (ids:=Qs) (f:=(f:Int)) (t:=t1) (q:=0) LA.out;rw[NC.out] at hrp hrq;obtain⟨wp,hwp⟩:=Nq (bA Ps (f:Int) t1 0 L);obtain⟨wq,hwq⟩:=Nq (bA Qs (f:Int) t1 0 L);rw[hwp] at hrp QO;rw[hwq] at hrq QO;rw[hg9.out,PG.out,hg8.out,hMo.out] at QO;have Sv:∀u,az 12 mQ u B4 (ζ ea en ec) L->az 1 (λx:Int=>[Value.int .i64 x]) u BP (ζ ppa ppn ppc) Ps->CB 25 #[ζ ea en ec,ζ ppa ppn ppc,ι ε (f:Int),ι ε t1] u wp:=λu h1 h2=>by have g:=ue _ _ L Ps (f:Int) t1 LA.out u B4 BP h1 (by rw[NC.out];exact Wi) h2 (by rw[Ut.out];exact KE);rw[hwp] at g;exact g
   have hqq:∀u,az 12 mQ u B4 (ζ ea en ec) L->az 1 (λx:Int=>[Value.int .i64 x]) u BQ (ζ qqa qqn qqc) Qs->CB 25 #[ζ ea en ec,ζ qqa qqn qqc,ι ε (f:Int),ι ε t1] u wq:=λu h1 h2=>by have g:=ue _ _ L Qs (f:Int) t1 LA.out u B4 BQ h1 (by rw[NC.out];exact Wi) h2 (by rw[Wz.out];exact hql);rw[hwq] at g;exact g
   obtain⟨A9,hA9⟩:=Nq (if wp*b.l2<wq*a.l2 then (wq*a.l2 - wp*b.l2)*65536 else 0);have hAr:0<=A9/\A9<=Mo:=by
    rw[<- hA9];split
    ·exact⟨by omega,QO⟩
    ·exact⟨by omega,hMor.1⟩
   have hah:∀u,CB 24 #[b.l2,wq,a.l2,wp] u (nv A9):=λu=>by have h:=CX b.l2 wq a.l2 wp u Wr ⟨by omega,by omega⟩ hmr ⟨by omega,by omega⟩;rw[hA9] at h;exact h
   have NE:∀u,CB 23 #[nv Mo,nv A9] u dI:=λu=>lI Mo A9 false u Mo128 ρx (ZF ρa);change Hid _ at QU hwp hwq hA9 c9 c10 Uf;clear QO c8;have ht1':(t:Int) - 1=t1:=QU.out;have htw:IntKind.i64.wrap ((t:Int) - 1)=t1:=by rw[ht1'];exact IntWalk.i64_in _ ⟨by omega,by omega⟩
   go_upto_region 28 with (fail);refine bS (θ9 I8 G7 S7 M7 E7 Y7 P7 Q7 (θ2 V7 O7)) ?_;clear Rr;rintro v8 ⟨Je,G8,S8,M8,E8,Y8,P8,Q8,V8,O8⟩ Rr;replace K7:=(az.cell M8 I3.out 1 (u:=ι ε a.par) rfl);replace K8:=(az.cell M8 Jx.out 1 (u:=ι ε b.par) rfl);replace KH:=(az.cell M8 I3.out 8 (u:=a.l2) rfl);replace K9:=(az.cell M8 Jx.out 8 (u:=b.l2) rfl);have qS:=af S8;have WU:=λd os=>(az.cell (M8.below (ZW _ d os)) I3.out 1 (u:=ι ε a.par) rfl);have WV:=λd os=>(az.cell (M8.below (ZW _ d os)) Jx.out 1 (u:=ι ε b.par) rfl);have WW:=λd os=>(az.cell (M8.below (ZW _ d os)) I3.out 8 (u:=a.l2) rfl);have WX:=λd os=>(az.cell (M8.below (ZW _ d os)) Jx.out 8 (u:=b.l2) rfl);have qY:=af Y8;have qO:=af O8;refine Wq ?_
   repeat (go_big_quiet_step ((first
     | (go_at_call 25;(with_reducible exact bT (hqq _ (E8.below (ZW _ _ _)) (Q8.below (ZW _ _ _)))))
     | (go_at_call 25;(with_reducible exact bT (Sv _ (E8.below (ZW _ _ _)) (P8.below (ZW _ _ _)))))
     | (go_at_call 24;(with_reducible exact bT (hah _)))
     | (go_at_call 23;(with_reducible exact bT (NE _))))))
   refine bF (θ9 G8 S8 M8 E8 Y8 P8 Q8 V8 (θ2 O8 Je)) ?_;clear Rr;rintro v9 ⟨G9,S9,M9,E9,Y9,P9,Q9,V9,O9,Jl⟩ Rr;replace K7:=(az.cell M9 I3.out 1 (u:=ι ε a.par) rfl);replace K8:=(az.cell M9 Jx.out 1 (u:=ι ε b.par) rfl);replace KH:=(az.cell M9 I3.out 8 (u:=a.l2) rfl);replace K9:=(az.cell M9 Jx.out 8 (u:=b.l2) rfl);clear qS WU WV WW WX qY qO G8 S8 M8 E8 Y8 P8 Q8 V8 O8;clear Sv hqq hah NE ht1';go_wp2;go_roundw;case rel=>exact⟨R+1,by go_num,by have:=c8'.out;omega,Uf.out,G9.below ρE,ρB,M9.below ρE,E9.below ρE,ρB,P9.below ρE,Q9.below ρE,V9.below ρE,ρB,Jl.step0 ρE⟩
   case measure=>have:=c8'.out;simp[intOf] at*;omega
section
open Go.ChangeShapes Go.WideShapes Go.ChangeAt Go.RowKit
theorem jB (T Lm:Int)(u:ϗ)(L:List OI)(i:Int) {p1:Prop} (_:p1)(j:Int) {p2:Prop} (_:p2)(w:ϖ)(o:eC w w u L)(q:∀x ∈ L,yP x):CB 5 #[φ #[ι ε T,ι ε Lm,u],ι ε i,ι ε j] w fJ:=
 Bj yR T Lm i j u L (λx hx=>(q x hx).1) (λx hx=>(q x hx).2) w w o
namespace wholeBehindDone
theorem own:ownKnob Ψ.godebug=none:=by kernel_rfl
theorem Ae:laidOutB Ψ=true:=by kernel_rfl
theorem lifted (os:Os)(OS:os.Started)(H:Type)(enc:TypeId × ϗ->H):
  ReturnsInHanded {} Tryz.checked os 5 .any (Rows.wholeBehindSpec.pre6 enc Ψ Tryz.f5 Rows.wholeBehindRow.domain false) (Rows.wholeBehindSpec.post enc Ψ Tryz.f5 false true false false):=by
 refine returnsInHanded_of_change (C:=Tryz.checked) own OS ρh Tryz.func5
  (ChangeSpec.witness6 (enc:=enc) (C:=Tryz.checked) false ⟨#[],#[φ #[Kz,Kz,Kn],Kz,Kz],[]⟩ 8 ρh ρh ρh ρh) ?_
 intro W base args ds gs before Ym hW hcnd _;have WH:∀(j:Nat) t v,Tryz.f5.params[j]?=some t->args[j]?=some v->Value.okWide Ψ W .any base t v:=Ym;have hW':=hW;obtain⟨p,q,hA0,hV,rfl,hfz,Lx⟩:=hW;have hA:DataW.TrodAll enc Ψ W 0 (λ_=>true) true Tryz.f5.params.toList args.toList ds p:=hA0;rw[Tryz.params5] at hA WH;obtain⟨v0,vs0,d0,ds0,p0,q0,hargs,rfl,rfl,h0,r0⟩:=trodAll_cons hA;obtain⟨v1,vs1,d1,ds1,p1,q1,rfl,rfl,rfl,h1,r1⟩:=trodAll_cons r0;obtain⟨v2,vs2,d2,ds2,p2,q2,rfl,rfl,rfl,h2,r2⟩:=trodAll_cons r1;obtain⟨rfl,rfl,rfl⟩:=trodAll_nil r2;obtain rfl:args=#[v0,v1,v2]:=by cases args;simp_all
 obtain⟨rfl,rfl⟩:=trodVars_none hV;have k0:=h0;have lt0:∀x ∈ p0,x.block<W:=by obtain⟨m,hm⟩:=k0;exact DataW.trod_lt m _ _ _ hm
 obtain⟨T0,M0,u0,L0,rfl,o0,i0⟩:=qe (WH 0 26 v0 rfl rfl) h0;obtain⟨a1,rfl,rfl,rfl,wf1⟩:=open_int Θ (WH 1 3 v1 rfl rfl) h1;have b1:=bounds_i64 wf1;obtain⟨a2,rfl,rfl,rfl,wf2⟩:=open_int Θ (WH 2 3 v2 rfl rfl) h2;have b2:=bounds_i64 wf2;clear hA0 Ym;refine(jB T0 M0 u0 L0 a1 b1 a2 b2 W o0 i0).mono λe W' ⟨he,bel⟩=>?_;subst he;exact⟨_,rfl,_,_,_,[],_,[],hW',trodAll_mk1 (shut_bool Tryz.underlying4 _),(trodAll_cons_mk (Below.trod Ae ρh (of_decide_eq_true ρh) k0 bel lt0) (trodAll_cons_mk (shut_int Θ wf1) (trodAll_cons_mk (shut_int Θ wf2) trodAll_mk0))),rfl,bel.frame _,λh=>by cases h⟩
theorem over:Rows.wholeBehindRow.holds Tryz.pinned (OpenSpec.ofChange Rows.wholeBehindSpec):=
 OpenClaim.holds_of_wide 5 Tryz.f5 rfl rfl rfl rfl rfl rfl rfl ⟨rfl,rfl,rfl,rfl,rfl⟩ rfl rfl rfl rfl rfl named Tryz.func5 Cn
  (of_decide_eq_true ρh) (by unfold Func.isWrapper;first|(rw[ZP (by decide+kernel)];kernel_rfl)|(rw[ZI (by decide+kernel)];exact⟨rfl,rfl⟩))
  (λos OS H enc _=>lifted os OS H enc)
end wholeBehindDone
theorem WholeBehind_holds:Rows.WholeBehindSaid:=wholeBehindDone.over
end
end Go.Proofs.YtfdlemkplejdnaaGreat
