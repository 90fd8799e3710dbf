/- WholeBehind, part 27. Conditions: none. -/
import Derived.Test.YtfdlemkplejdnaaGreatA24
namespace Go.Proofs.YtfdlemkplejdnaaGreat
open Go.RowKit Go.Sort
open Value renaming int->ι,pointer->ψ,slice->ζ,tuple->χ,agg->φ,map->μ,bool->β
open IntKind renaming u64->υ,i64->ε,u16->ω
open Ending renaming returned->ϰ
open Go.Proofs.Tryz renaming prog->Ψ,underlying3->Θ,underlying147->Δ,underlying152->Γ,underlying202->Φ,underlying39->Ξ,underlying207->Ω
open Go renaming World->ϖ,Value->ϗ
set_option linter.unusedVariables false
set_option linter.unusedSimpArgs false
set_option maxHeartbeats 8000000
set_option maxRecDepth 100000
def DK (L:List CD)(x:Int):Bool:=match fc L x with|some c=>cW (kd c.r0 c.r1 c.r2)|none=>false
theorem AY (A B Ta Ma Tb Mb:Nat)(L:List CD)(x:Int)(c:CD)(w:ϖ)(hA:ah w A #[Ta] 145)(hB:ah w B #[Tb] 145)(T:aF w Ta Ma [])(U:aF w Tb Mb L)(hc:fc L x=some c)(hk:0<=c.r0/\0<=c.r1/\0<=c.r2):
  CB 117 #[ι ε x,A,B] w (β (DK L x)):=by
 unfold CB;go_in;have Rr:=θ2 hA.r hB.r;go_wp2_with fail;refine Zc (θ5 (Ks (λ_=>False) w) hA hB T U) ?_;rintro v1 ⟨F',Ud,Ug,T1,U1⟩;refine(jm Ta Ma [] x _ T1 rfl).mono ?_;rintro e v2 ⟨rfl,kx⟩;clear Rr;obtain⟨⟨RD,N0,T2,U2,Iz⟩,Rr⟩:=Mx kx (θ5 Ud Ug T1 U1 F');clear kx;go_upto_region 2 with (fail);go_wp2_with fail;refine mL (θ5 Iz RD N0 T2 U2) (λv=>ah v v2 (kE 0 0 false 0 0 0 0 0 0 0 0 0 0 0) 43) ρB ?_;clear Rr;rintro v3 C3 ⟨ID,Ue,Vd,T3,U3⟩ Rr;have Ss:=C3.r;refine(wL Tb Mb L x c _ U3 hc).mono ?_;rintro e v4 ⟨rfl,kx⟩;clear Rr Ss;obtain⟨⟨hA4,XF,T4,U4,C4,IC⟩,Rr⟩:=Mx kx (θ6 Ue Vd T3 U3 C3 ID);clear kx;go_upto_region 3 with (fail);go_wp2_with fail;refine mL (θ6 IC hA4 XF T4 U4 C4) (λv=>ah v v4 (fx c) 43) ρB ?_;clear Rr;rintro v5 D5 ⟨IN,hA5,hB5,T5,U5,C5⟩ Rr;have Ss:=D5.r;refine δW ?_;rintro e v6 ⟨rfl,kx⟩;clear Rr Ss;obtain⟨⟨hA6,hB6,T6,U6,C6,D6,IQ⟩,Rr⟩:=Mx kx (θ7 hA5 hB5 T5 U5 C5 D5 IN);clear kx;go_wp2_with fail;refine Zc (θ7 IQ hA6 hB6 T6 U6 C6 D6) ?_;rintro v7 ⟨I8,hA7,hB7,T7,U7,C7,D7⟩;refine(rb _ c.id c.par c.lf c.r0 c.r1 c.r2 c.l0 c.l1 c.l2 c.u0 c.u1 c.u2 c.pk c.by_ hk _ rfl).mono ?_;rintro e v8 ⟨rfl,kx⟩;clear Rr;obtain⟨⟨hA8,hB8,T8,U8,C8,D8,Je⟩,Rr⟩:=Mx kx (θ7 hA7 hB7 T7 U7 C7 D7 I8);clear kx;go_wp2;go_ret;exact⟨by first|rfl|(simp[DK,hc];done),(Je.step0 ρE).toBelow⟩
theorem tg (A B Ta Ma Tb Mb:Nat)(L:List CD)(x:Int)(w:ϖ)(hA:ah w A #[Ta] 145)(hB:ah w B #[Tb] 145)(T:aF w Ta Ma [])(U:aF w Tb Mb L)(hc:fc L x=none):
  CB 117 #[ι ε x,A,B] w (β (DK L x)):=by
 unfold CB;go_in;have Rr:=θ2 hA.r hB.r;go_wp2_with fail;refine Zc (θ5 (Ks (λ_=>False) w) hA hB T U) ?_;rintro v1 ⟨F',Ud,Ug,T1,U1⟩;refine(jm Ta Ma [] x _ T1 rfl).mono ?_;rintro e v2 ⟨rfl,kx⟩;clear Rr;obtain⟨⟨RD,N0,T2,U2,Iz⟩,Rr⟩:=Mx kx (θ5 Ud Ug T1 U1 F');clear kx;go_upto_region 2 with (fail);go_wp2_with fail;refine mL (θ5 Iz RD N0 T2 U2) (λv=>ah v v2 (kE 0 0 false 0 0 0 0 0 0 0 0 0 0 0) 43) ρB ?_;clear Rr;rintro v3 C3 ⟨ID,Ue,Vd,T3,U3⟩ Rr;have Ss:=C3.r;refine(jm Tb Mb L x _ U3 hc).mono ?_;rintro e v4 ⟨rfl,kx⟩;clear Rr Ss;obtain⟨⟨hA4,XF,T4,U4,C4,IC⟩,Rr⟩:=Mx kx (θ6 Ue Vd T3 U3 C3 ID);clear kx;go_upto_region 3 with (fail);go_wp2_with fail;refine mL (θ6 IC hA4 XF T4 U4 C4) (λv=>ah v v4 (kE 0 0 false 0 0 0 0 0 0 0 0 0 0 0) 43) ρB ?_;clear Rr;rintro v5 D5 ⟨IN,hA5,hB5,T5,U5,C5⟩ Rr;have Ss:=D5.r;refine δW ?_;rintro e v6 ⟨rfl,kx⟩;clear Rr Ss;obtain⟨⟨hA6,hB6,T6,U6,C6,D6,IQ⟩,Rr⟩:=Mx kx (θ7 hA5 hB5 T5 U5 C5 D5 IN);clear kx;go_wp2_with fail;refine Zc (θ7 IQ hA6 hB6 T6 U6 C6 D6) ?_;rintro v7 ⟨I8,hA7,hB7,T7,U7,C7,D7⟩;refine δW ?_;rintro e v8 ⟨rfl,kx⟩;clear Rr;obtain⟨⟨hA8,hB8,T8,U8,C8,D8,Je⟩,Rr⟩:=Mx kx (θ7 hA7 hB7 T7 U7 C7 D7 I8);clear kx;go_wp2;go_ret;exact⟨by first|rfl|(simp[DK,hc];done),(Je.step0 ρE).toBelow⟩
theorem qQ (A B Ta Ma Tb Mb:Nat)(L:List CD)(x:Int)(w:ϖ)(hA:ah w A #[Ta] 145)(hB:ah w B #[Tb] 145)(T:aF w Ta Ma [])(U:aF w Tb Mb L):
  CB 117 #[ι ε x,A,B] w (β (DK L x)):=by
 cases hc:fc L x with
 | none=>exact tg A B Ta Ma Tb Mb L x w hA hB T U hc
 | some c=>exact AY A B Ta Ma Tb Mb L x c w hA hB T U hc (U.2.2 c (aM hc).1).2.2.1
theorem AZ (Ta Ma Tb Mb:Nat)(L:List CD)(w:ϖ)(T:aF w Ta Ma [])(U:aF w Tb Mb L)(hL:L.length<=1000):Calls Ψ 80 #[Ta,Tb] w λe w'=>∃b,e=ϰ (β b)/\Below w w w':=by
 go_in;go_wp2_with fail;refine Jc (θ3 (Ks (λ_=>False) w) T U) (λv=>ah v w #[Ta] 145/\ah v (w+1) #[Tb] 145) ⟨ρB,ρB⟩ ?_;rintro v1 ⟨Ud,Ug⟩ ⟨F',T1,U1⟩;have Rr:=θ2 Ud.r Ug.r;refine(ny Ta Ma Tb Mb L _ T1 U1 hL).mono ?_;rintro e v2 ⟨u,rfl,G2,kx⟩;clear Rr;obtain⟨⟨T2,U2,RD,N0,Iz⟩,Rr⟩:=Mx kx (θ5 T1 U1 Ud Ug F');clear kx;have hg:(aN (λ_=>true) L).length<=1000000:=by rw[aN,List.length_mergeSort,pf];exact ZK (ZH _ _) ρa
 obtain⟨oa,oc,rfl⟩:=ae.slice G2;obtain⟨ys,Jd⟩:=Nq (aN (λ_=>true) L);rw[Jd] at hg G2 ⊢;go_wp2_with fail;refine Zc (θ6 Iz T2 U2 RD N0 G2) ?_;rintro v3 ⟨ID,T3,U3,Ue,Vd,G3⟩;refine(lP v1 _ ys (DK L) 117 #[w,ψ (some ⟨w+1,0,none⟩)] _ G3 hg (enters_of Tryz.func117 ρh rfl) (λy v hv=>qQ _ _ Ta Ma Tb Mb L y v (Ue.below hv Ue.size) (Vd.below hv Vd.size) (T3.below hv) (U3.below hv))).mono ?_;rintro e v4 ⟨rfl,kx⟩;clear Rr;obtain⟨⟨T4,U4,hA4,XF,G4,IC⟩,Rr⟩:=Mx kx (θ6 T3 U3 Ue Vd G3 ID);clear kx;go_wp2;go_ret;exact⟨_,rfl,(IC.step0 ρE).toBelow⟩
theorem sQ (base:Nat)(v:ϗ)(xs:List Int)(p:Int->Bool)(g:Nat)(lb:Array ϗ)(w:ϖ)(H:HI w base v xs)(hx:xs.length<=1000000)(eg:∀args w,(callFunc g args).run Ψ w=.ok (.enter g args) w)
  (hp:∀x ∈ xs,∀v,Below w w v->Calls Ψ g (#[ι ε x]++lb) v λe v'=>e=ϰ (β (p x))/\Below v v v'):
  CB 78 #[v,.func (.func g) #[] lb] w (β (xs.any p)):=by
 rw[<- jo p xs 0];unfold CB;go_in;go_wp2_with fail;refine(oW base v xs p g lb w H hx eg hp).mono ?_;rintro e v ⟨rfl,hb⟩;go_wp2;go_ret;exact⟨rfl,hb⟩
theorem pD (o:aT)(a:Ad)(s:SS)(w:ϖ)(H:ar o w a s)(hL:s.L=[]):Calls Ψ 81 #[a.S] w λe w'=>∃v,e=ϰ v/\HI w' w v []/\Below w w w':=by
 obtain⟨S,T,-⟩:=H;rw[hL] at T;have Rr:=S.r;go_in;go_wp2_with fail;refine mL (θ3 (Ks (λ_=>False) w) S T) (λv=>ah v w #[a.S] 117) ρB ?_;clear Rr;rintro v1 B1 ⟨F',S1,T1⟩ Rr;have Ss:=B1.r;refine(tP a.T a.M [] _ T1 ρp).mono ?_;have Zu:=F'.size;rintro e v2 ⟨u,rfl,G2,kx⟩;clear Rr Ss;obtain⟨⟨S2,T2,B2,Iz⟩,Rr⟩:=Mx kx (θ4 S1 T1 B1 F');clear kx;rw[tS] at G2;have k01z:w.heap.size<=v1:=by have:=Zu;omega
 obtain⟨oa,oc,rfl⟩:=ae.slice G2;simp only[List.length_nil] at G2;have z1:=Iz.size;go_wp2_with fail;refine kL (θ5 Iz S2 T2 B2 G2) ?_;clear Rr;rintro v3 ⟨ID,S3,T3,B3,G3⟩ Rr;have z3:=ID.size;have zz:w.heap.size<=v1:=k01z;refine(ui v1 _ [] 121 #[w] _ G3 ρp (enters_of Tryz.func121 ρh rfl) (by intro x hx;cases hx)).mono ?_;rintro e v4 ⟨u4,rfl,G4,kx⟩;have b4:Below w w v4:=ID.toBelow.trans (kx.below z3 (λk hk e=>ae.notown G3 (ZB hk zz) e));have z4:=b4.size;clear kx;go_wp2;go_ret;exact⟨_,rfl,ae.below (ae.base_le G4 zz) ρE,b4.trans ρE⟩
theorem Cp (o:aT)(a:Ad)(s:SS)(id:Int)(w:ϖ)(H:ar o w a s)(hL:s.L=[]):
  CB 79 #[a.S,ι ε id] w dI:=by
 have zS:=H.1.size;unfold CB;go_in;go_wp2_with fail;refine Calls.mono (pD o a s _ (H.below ρE) hL) ?_;rintro e v2 ⟨u,rfl,G2,kx⟩;have b2:Below w w v2:=Below.trans ρE (kx.mono ρJ);have z2:=b2.size;obtain⟨oa,oc,rfl⟩:=ae.slice G2;simp only[List.length_nil] at G2;clear kx;go_wp2_with fail;refine(sQ _ _ [] (λ_=>false) 114 #[w,ψ (some ⟨w+1,0,none⟩)] _ G2 ρp (enters_of Tryz.func114 ρh rfl) (by intro x hx;cases hx)).mono ?_;rintro e v3 ⟨rfl,kx⟩;have b3:=b2.trans (kx.mono z2);have z3:=b3.size;clear kx;simp only[List.any_nil];go_wp2;go_ret;exact⟨rfl,b3.trans ρE⟩
theorem aj.set0 {w:ϖ} {b:Nat} {qv:ϗ} {x:EN} (h:aj w b qv x)(t:ϗ):aj (w.setCell ⟨b,0,none⟩ t) b t x:=by have:=ah.set_same (w:=w) (B:=b) (cs:=nX x qv) (cs':=nX x t) (t:=_) (i:=0) (v:=t) h ρh;exact this
theorem wt (c:CD)(w:ϖ)(hl:c.lf=false):Calls Ψ 83 #[φ (fx c)] w λe w'=>e=ϰ (ψ (some ⟨w+1,0,none⟩))/\aj w' (w+1) Kp (dT c)/\Below w w w':=by
 obtain⟨id,par,lf,r0,r1,r2,l0,l1,l2,u0,u1,u2,pk,by_⟩:=c;simp only at hl;subst hl;go_in;go_wp2;go_ret;exact⟨rfl,ah.alloc_new _ _ _ ρp,ρE⟩
theorem wu (c:CD)(w:ϖ)(hl:c.lf=true)(h1:1<=c.pk/\c.pk<=64)(h2:1<=c.by_/\c.by_<=1048576):Calls Ψ 83 #[φ (fx c)] w λe w'=>e=ϰ (ψ (some ⟨w+1,0,none⟩))/\(∃Q fp,aj w' (w+1) (ψ (some ⟨Q,0,none⟩)) (dT c)/\aW w' Q c.by_ c.pk.toNat [] fp/\∀x,fp x->w.heap.size+2<=x)/\Below w w w':=by
 obtain⟨id,par,lf,r0,r1,r2,l0,l1,l2,u0,u1,u2,pk,by_⟩:=c;simp only at hl h1 h2;subst hl;obtain⟨n,rfl⟩:∃n:Nat,pk=n:=⟨pk.toNat,by omega⟩;simp only[Int.toNat_natCast];go_in;go_wp2_with fail;refine Calls.mono (Gl n by_ _ ρa ρa h2.1 h2.2) ?_;rintro e v ⟨Q,rfl,⟨fp,G,MZ⟩,kx⟩;have b2:Below w w v:=Below.trans ρE (kx.mono ρJ);have zz:=kx.size;have E:aj v (w+1) Kp (dT ⟨id,par,true,r0,r1,r2,l0,l1,l2,u0,u1,u2,n,by_⟩):=aj.below (ah.alloc_new _ _ _ ρp) kx;simp at MZ zz;clear kx;have c0:=E.c0;have f0:=E.fr;go_upto_region 4 with (fail);refine gX v (λy=>y=w.heap.size+1) (λu=>aj u (w+1) Q (dT ⟨id,par,true,r0,r1,r2,l0,l1,l2,u0,u1,u2,n,by_⟩)) (E.set0 _) (λ_ kx=>kx) ?_;rintro u E2 ku;have G2:=G.ko ku (λy hy e=>by have:=MZ y hy;omega);have b3:Below w w u:=b2.trans (ku.below ρa (λk hk e=>by omega));have z3:=b3.size;clear ku E c0 f0;go_wp2;go_ret;exact⟨rfl,⟨Q,fp,E2.below ρE,G2.below ρE,λy hy=>by have:=MZ y hy;omega⟩,b3.trans ρE⟩
theorem wM {L:List CD} {p:CD->Bool} (h:(L.map CD.id).Nodup) {y:Int} (hy:y ∈ aN p L):∃c,fc L y=some c/\p c=true:=by
 unfold aN at hy;rw[List.mem_mergeSort,List.mem_map] at hy;obtain⟨c,hc,rfl⟩:=hy;rw[List.mem_filter] at hc;refine⟨c,?_,hc.2⟩;have:∀(L:List CD),(L.map CD.id).Nodup->c ∈ L->fc L c.id=some c:=by
  intro L
  induction L with
  | nil=>intro _ h;cases h
  | cons a r ih=>
   intro hn hm;rw[gY,ZD] at hn;unfold fc;rcases ZC.1 hm with e|e
   ·rw[ZP (by rw[e]),e]
   ·rw[ZI (λe2=>hn.1 (by rw[<- e2];exact List.mem_map.2 ⟨c,e,rfl⟩))];exact ih hn.2 e
 exact this L h hc.1
theorem zH (o:aT)(a:Ad)(s:SS)(id:Int)(c:CD)(A:Nat)(w:ϖ)(A0:ah w A #[a.S] 117)(H:ar o w a s)(hc:fc s.L id=some c)(hl:c.lf=true)(hq:(s.e id).q=[]):
  CB 121 #[ι ε id,A] w fJ:=by
 have H9:=H;obtain⟨S',-,Lk,E',-⟩:=H9;obtain⟨b,qv,hb,Jj,E0,-⟩:=E'.out hc;obtain⟨X0,ob,Q0,ok⟩:=E0;unfold dQ at Q0;rw[ZP (by rw[Jj];exact hl),hq] at Q0;obtain⟨Q,fp,rfl,Q1,hf⟩:=Q0;have X':aj w b Q (s.e id):=X0;have zX:=X'.size;have zS:=S'.size;have zA:=A0.size;have lB:=((am Δ Θ Lk id (z:=Kp) ρm).2.trans (by rw[hb];try rfl));have lX:=aj.c0 X';have cA:=A0.cell;have fA:=A0.frozen;have cS:=S'.cell;have fS:=S'.frozen;clear E' X0 hb Jj ok ob hf;unfold CB;go_in;go_wp2_with fail;refine(sJ Q _ _ [] fp _ Q1).mono ?_;rintro e u ⟨rfl,rfl⟩;go_wp2;go_ret;exact⟨rfl,ρE⟩
theorem uI (o:aT)(a:Ad)(s:SS)(w:ϖ)(H:ar o w a s)(hL:s.L.length<=1000)(hq:∀i c,fc s.L i=some c->c.lf=true->(s.e i).q=[]):Calls Ψ 81 #[a.S] w λe w'=>∃v,e=ϰ v/\HI w' w v []/\Below w w w':=by
 have H0:=H;obtain⟨S,T,-⟩:=H0;obtain⟨ys,Jd⟩:=Nq (aN CD.lf s.L);have Pq:ys.length<=1000:=σJ;have Ql:∀y ∈ ys,∃c,fc s.L y=some c/\c.lf=true:=by rw[<- Jd];exact λy hy=>wM (gi T) hy
 have Rr:=S.r;go_in;go_wp2_with fail;refine mL (θ4 (Ks (λ_=>False) w) S T H) (λv=>ah v w #[a.S] 117) ρB ?_;clear Rr;rintro v1 B1 ⟨F',S1,T1,H1⟩ Rr;have Ss:=B1.r;refine(tP a.T a.M s.L _ T1 hL).mono ?_;have Zu:=F'.size;rintro e v2 ⟨u,rfl,G2,kx⟩;clear Rr Ss;obtain⟨⟨S2,T2,H2,B2,Iz⟩,Rr⟩:=Mx kx (θ5 S1 T1 H1 B1 F');clear kx;have k01z:w.heap.size<=v1:=by have:=Zu;omega
 rw[Jd] at G2;obtain⟨oa,oc,rfl⟩:=ae.slice G2;obtain⟨n,hn⟩:=Nq ys.length;rw[hn] at G2 Pq ⊢;have z1:=Iz.size;go_wp2_with fail;refine kL (θ6 Iz S2 T2 H2 B2 G2) ?_;clear Rr;rintro v3 ⟨ID,S3,T3,H3,B3,G3⟩ Rr;have z3:=ID.size;have zz:w.heap.size<=v1:=k01z;refine(ui v1 _ ys 121 #[w] _ G3 ρa (enters_of Tryz.func121 ρh rfl) (λx hx v hv=>?_)).mono ?_
 ·obtain⟨c,hc,JK⟩:=Ql x hx;exact zH o a s x c w v (B3.below hv B3.size) (H3.below hv) hc JK (hq x c hc JK)
 rintro e v4 ⟨u4,rfl,G4,kx⟩;have b4:Below w w v4:=ID.toBelow.trans (kx.below z3 (λk hk e=>ae.notown G3 (ZB hk zz) e));have z4:=b4.size;clear kx;go_wp2;go_ret;exact⟨_,rfl,ae.below (ae.base_le G4 zz) ρE,b4.trans ρE⟩
end Go.Proofs.YtfdlemkplejdnaaGreat
