/- WholeDelay, part 40. Conditions: none. -/
import Derived.Test.YtfdlemkplejdnaaGreatA38
import Derived.Test.YtfdlemkplejdnaaGreatA39
namespace Go.Proofs.YtfdlemkplejdnaaGreat
open Go.RowKit Go.Sort
open Value renaming int->ι,pointer->ψ,slice->ζ,tuple->χ,agg->φ,map->μ,bool->β
open IntKind renaming u64->υ,i64->ε,u16->ω
open Ending renaming returned->ϰ
open Go.Proofs.Tryz renaming prog->Ψ,underlying3->Θ,underlying147->Δ,underlying152->Γ,underlying202->Φ,underlying39->Ξ,underlying207->Ω
open Go renaming World->ϖ,Value->ϗ
set_option linter.unusedVariables false
set_option linter.unusedSimpArgs false
set_option maxHeartbeats 8000000
set_option maxRecDepth 100000
theorem ET (AL:ul)(T Lm:Int)(v:ϗ)(Os:List OI)(hc:∀x ∈ Os,∀c ∈ x.ch,CN c.2)(ht:∀x ∈ Os,0<=x.tk/\x.tk<=Ma)(w:ϖ)(B:Nat)(G:dv w B v Os):
  CB 4 #[φ #[ι ε T,ι ε Lm,v]] w fK:=by
 obtain⟨oa,oc,rfl,-⟩:=G.slice;have zB:B<=w:=G.base_le;obtain⟨n,hn⟩:=Nq Os.length;obtain⟨z,hz⟩:∃z,decide ((1<=T/\T<=65536/\1<=Lm/\Lm<=16384)/\(Os.length:Int)<=100/\∀y ∈ Os,y.ch.length<=40/\y.rl.length<=40)=z:=⟨_,rfl⟩;rw[hn] at G ⊢;have hR:∀u,dv u B (ζ oa n oc) Os->CB 7 #[φ #[ι ε T,ι ε Lm,ζ oa n oc],ι ε 100] u (β z):=λu h=>by have g:=EA _ Os T Lm 100 ρa u B h;rw[hz] at g;exact g
 change Hid _ at hz hn;unfold CB;go_in;go_wp2_with fail;refine Jc (θ2 (Ks (λ_=>False) w) G) (λv=>ah v w #[ι ε T,ι ε Lm,ζ oa n oc] 26) ρB ?_;rintro v1 S1 ⟨I',G1⟩;have Rr:=S1.r;refine(Ev _ Os T Lm hc v1 B G1).mono ?_;rintro e v2 ⟨sa,sn,sc,m,rfl,hfx,kx⟩;clear Rr;obtain⟨⟨G2,S2,JE⟩,Rr⟩:=Mx kx (θ3 G1 S1 I');clear kx;replace hfx:=ag hfx;by_cases cm:m=0
 rotate_left
 ·have dm:(m==0)=false:=ZN.2 cm;clear cm;go_wp2_with fail;refine Zc (θ3 JE G2 S2) ?_;rintro v3 ⟨JI,G3,S3⟩;refine(hR v3 G3).mono ?_;rintro e v4 ⟨rfl,kx⟩;clear Rr;obtain⟨⟨G4,S4,JJ⟩,Rr⟩:=Mx kx (θ3 G3 S3 JI);clear kx;cases z
  ·exact ξu
  ·exact ξu
 have dm:(m==0)=true:=by rw[cm];rfl
 obtain⟨x0,r,WV,LA,hxr,M,HM,hSt,WW,h32,hFit⟩:=hfx.out cm;clear hfx cm;have M2:=af.rd HM (λ_=>rfl);obtain⟨B1,Ua⟩:=Nq v2.heap.size;rw[Ua] at M2;clear Ua HM;obtain⟨_,_,e9,-⟩:=M2.slice;obtain⟨rfl,rfl,rfl⟩:=ZV e9;clear e9;obtain⟨mn,Pf⟩:=Nq M.length;rw[Pf] at M2 ⊢;change Hid _ at hSt hFit hxr WV;go_wp2_with fail;refine Zc (θ4 JE G2 S2 M2) ?_;rintro v3 ⟨JI,G3,S3,M3⟩;refine(hR v3 G3).mono ?_;rintro e v4 ⟨rfl,kx⟩;clear Rr;obtain⟨⟨G4,S4,M4,JJ⟩,Rr⟩:=Mx kx (θ4 G3 S3 M3 JI);clear kx;cases z
 ·exact ξu
 obtain⟨⟨hT1,hT2,Th,MD⟩,JS,Kh⟩:=of_decide_eq_true hz.out;have hmnl:mn<=1000:=by rw[<- Pf];exact hSt.out.len h32
 have hRun:∀u,dv u B (ζ oa n oc) Os->Calls Ψ 9 #[φ #[ι ε T,ι ε Lm,ζ oa n oc]] u λe w'=>∃rs ev y,e=ϰ (χ #[φ #[rs,ev],Kz])/\xe T Lm (vX x0.ch) M x0 r y/\cu w' u ev y.ev/\(∃ra rn rc,rs=ζ ra rn rc)/\Below u u w':=λu h=>IA T Lm ⟨hT1,hT2⟩ ⟨Th,MD⟩ x0 r M _ B u (by rw[<- WV.out];exact h) LA τS (by rw[<- WV.out];omega) τs hSt.out h32 hFit.out;obtain⟨ck,OF⟩:=Nq (jo Os);have hCk:∀u,dv u B (ζ oa n oc) Os->CB 12 #[φ #[ι ε T,ι ε Lm,ζ oa n oc],ι ε n] u ck:=λu h=>by have g:=Et _ Os T Lm ht u B h ρa;rw[hn.out,OF] at g;exact g
 change Hid _ at JS Kh Pf LA OF;clear hz hR;go_wp2_with fail;refine Zc (θ4 JJ G4 S4 M4) ?_;rintro v5 ⟨JP,G5,S5,M5⟩;refine(hRun v5 G5).mono ?_;rintro e v6 ⟨rs,ev,y,rfl,hY,HE,hrs,kx⟩;clear Rr;obtain⟨⟨G6,S6,M6,JT⟩,Rr⟩:=Mx kx (θ4 G5 S5 M5 JP);clear kx;obtain⟨ra,rn,rc,rfl⟩:=hrs;have E6:=af.rd HE (λ_=>rfl);obtain⟨B4,Yh⟩:=Nq v6.heap.size;rw[Yh] at E6;replace Yh:=ag Yh;clear HE;obtain⟨L,hL⟩:=Nq y.ev;obtain⟨ea,ec,rfl,-⟩:=E6.slice;have hLl:L.length<=1000:=by have:=hY.ev;have h2:=JS.out;rw[WV.out] at h2;simp at h2;rw[<- hL];omega
 have Nc:∀e ∈ L,0<=e.at_/\e.pk.len<=16384:=by rw[<- hL];exact hY.at_
 have hsr:L.Pairwise (λa b=>a.at_<=b.at_):=by rw[<- hL];exact hY.srt.1
 have WZ:∀e ∈ L,0<=e.at_/\e.at_<=4611686018427387904:=by rw[<- hL];exact λe he=>⟨(hY.at_ e he).1,hY.srt.2 e he⟩
 have hlat:∀c ∈ M,SS.real c=true->pF T Lm ck c L:=by rw[<- hL,<- OF.out,WV.out];exact hY.lat
 have hckr:ck<=4611686018427387904:=by have h:=hY.ok.clk;have h2:=hY.clk;rw[<- OF.out,WV.out,<- h2];exact h.2.2
 rw[hL] at E6 ⊢;obtain⟨en,Qt⟩:=Nq L.length;rw[Qt] at E6 ⊢;change Hid _ at hL hY Qt Nc hlat hsr WZ;go_upto_region 5 with fail;refine jf (θ5 JT G6 S6 M6 E6) (λv=>ah v v6 #[ζ ra rn rc,ζ ea en ec] 35) ρB ?_;clear Rr;rintro v7 Y7 ⟨J7,G7,S7,M7,E7⟩ Rr;have Ss:=Y7.r;obtain⟨W6,rfl⟩:∃W:ϖ,W=v6:=⟨_,rfl⟩;have hen9:en<=1000:=by rw[<- Qt.out];exact hLl
 have hMw:∀c ∈ M,WC c=0/\CN c:=(gE.nil.steps gD.nil ρa τs hSt.out).2.2.wc;replace hMw:=ag hMw;clear hRun;go_wp2_with fail;refine Zc (θ6 J7 G7 S7 M7 E7 Y7) ?_;rintro v8 ⟨Ka,G8,S8,M8,E8,Y8⟩;refine(hCk v8 G8).mono ?_;rintro e v9 ⟨rfl,kx⟩;clear Rr Ss;obtain⟨⟨G9,S9,M9,E9,Y9,Km⟩,Rr⟩:=Mx kx (θ6 G8 S8 M8 E8 Y8 Ka);clear kx;go_wp2_with fail;go_loopw [42] (fun  k wr=>∃(ua ub:List CD),k=ι ε (ua.length:Nat)/\M=ua++ub/\ah wr w #[ι ε T,ι ε Lm,ζ oa n oc] 26/\dv wr B (ζ oa n oc) Os/\aS 12 xF wr B4 (ζ ea en ec) L/\ah wr W6 #[ζ ra rn rc,ζ ea en ec] 35/\aS 14 eI wr B1 (ζ sa mn sc) M/\KO (λ_=>False) w wr) (λk _=>mn - (intOf k).toNat);case atStart=>exact⟨[],M,rfl,rfl,ρB,G9.below ρE,E9.below ρE,ρB,M9.below ρE,Km.step0 ρE⟩
 case round=>
  obtain⟨ua,ub,rfl,PO,S0,G0,E0,Y0,M0,uk00⟩:=hrel;have uzw:=uk00.size;have QL:ua.length+ub.length=mn:=by rw[<- Pf.out,PO,ZL]
  obtain⟨uq,uhq⟩:=Nq ua.length;rw[uhq] at QL ⊢;clear S9 G9 E9 Y9 M9 Km;have Ss:=θ2 S0.r Y0.r;cases ub with
  | nil=>
   have uhlt:¬(uq:Int)<(mn:Int):=by simp at QL;omega
   have uhd:=ZF uhlt;have uhLa:M=ua:=by rw[PO,ZA]
   change Hid _ at QL PO uhq uhLa;go_wp2_with fail;refine Zc uk00 ?_;rintro v1 I';refine(AL v1).mono ?_;rintro e v2 ⟨rfl,kx⟩;have JE:KO (λ_=>False) w v2:=I'.step0 kx;clear kx;exact ηn
  | cons c ur=>
   have uhlt:(uq:Int)<(mn:Int):=by simp at QL;omega
   have uhd:=ZT uhlt;have uhcq:M[uq]?=some c:=by rw[PO,<- uhq];simp
   have uhcm:c ∈ M:=by rw[PO];simp
   have uhqn:uq<mn:=ρa;have uzGB:B1<=wr:=τI;obtain⟨ug0,XK,rfl,uhg,uRA⟩:=M0.at uhcq;have uhgw:ug0<wr:=ρa;have KR:=(hMw.out c uhcm).2;obtain⟨kv,LQ⟩:=Nq (kd c.r0 c.r1 c.r2);change Hid _ at QL uhq PO uhcq LQ;go_upto_region 8 with (fail);go_upto_region 9 with (refine Go.wpList_load_mid rfl 43 _ rfl ug0 (XK+uq*14) rfl (eI c) _ uRA Tryz.underlying43 rfl ρh ?_;try simp only[eI]);refine jf (θ6 uk00 S0 G0 E0 Y0 M0) (λv=>ah v wr (fd c) 43) ρB ?_;clear Rr Ss;rintro v1 C1 ⟨I',S1,G1,E1,Y1,M1⟩ Rr;have Ss:=C1.r;go_wp2_with fail;refine Zc (θ7 I' S1 G1 E1 Y1 M1 C1) ?_;rintro v2 ⟨JE,S2,G2,E2,Y2,M2,C2⟩;refine(bM c.r0 c.r1 c.r2 kv v2 KR.1.1 KR.1.2.1 KR.1.2.2 LQ.out).mono ?_;rintro e v3 ⟨rfl,kx⟩;clear Rr Ss;obtain⟨⟨S3,G3,E3,Y3,M3,C3,JI⟩,Rr⟩:=Mx kx (θ7 S2 G2 E2 Y2 M2 C2 JE);clear kx;by_cases c1:kv<2
   ·have d1:=ZT c1;clear c1;exact ξ0
   have d1:=ZF c1;by_cases c0:c.r2=0
   ·have d0:(c.r2==0)=true:=by rw[c0];rfl
    replace c0:=ag c0;clear c1;exact ξ0
   have d0:(c.r2==0)=false:=ZN.2 c0;have HL:=ag (hlat.out c uhcm (by unfold SS.real de;rw[LQ.out];exact ZT ρa));have Nn:=HL.out.cin;have m12:1<=c.r2/\c.r2<=Md:=by have h1:=Nn.2.2.2;have h2:=c0;omega
   have hfw:=xt (id:=c.id) (λe he hi=>HL.out.len e he hi) (λe he=>(Nc.out e he).2) (by rw[Qt.out];exact hen9);have OV:=pM (id:=c.id) hsr.out;have htc:∀x ∈ aP c.id L,0<=x.1/\x.1<=Mb:=by intro x hx;obtain⟨e,he,rfl⟩:=List.mem_map.1 hx;have h1:=WZ.out e (ZE.1 he).1;exact⟨h1.1,Int.le_trans h1.2 ρa⟩
   obtain⟨Mo,VU⟩:=eG.ex c.r2 (aP c.id L);have hbr:=VU.rng ρa hfw.1 hfw.2 OV;have JY:=VU.bst;have hkl:(aP c.id L).length<=1000:=by have:=lG c.id L;rw[Qt.out] at this;omega
   obtain⟨Bv,VS⟩:=Nq (up Mo 65536);rw[VS] at hbr JY;obtain⟨V,hV⟩:=Nq (sT T Lm Bv c);have HD:=ag (⟨HL.out,hsr.out,m12.1,JY⟩:pD T Lm ck Bv c L);have hVr:0<=V/\V<=4611686018427387904:=by rw[<- hV];exact xB ⟨hT1,hT2⟩ ⟨Th,MD⟩ hbr m12 ⟨Nn.2.2.1.1,by have:=Nn.2.2.1.2;omega⟩
   have hBo:∀u,CB 15 #[φ #[ι ε T,ι ε Lm],φ (aJ c.r0 c.r1 c.r2),Bv] u (φ #[V,Kz]):=λu=>by have g:=yu T Lm Bv kv c u ⟨hT1,hT2⟩ ⟨Th,MD⟩ hbr Nn.2.1.1 ⟨Nn.2.2.1.1,by have:=Nn.2.2.1.2;omega⟩ m12 LQ.out ρa;rw[show up (Bv*65536) c.r2+T*Lm+(if kv=4 then c.r1 else 0)=V by rw[<- hV,<- LQ.out];rfl] at g;exact g
   have Xd:∀v,(Instr.field 60 (φ #[V,Kz]) 0).run Ψ v=.ok (ι υ V) v:=λ_=>by kernel_rfl
   change Hid _ at hfw OV htc VU VS hV;clear JY Nn c0 c1 HL;obtain⟨W,rfl⟩:∃W:ϖ,W=wr:=⟨_,rfl⟩;have hB4W:B4<=W:=τJ;have hB1W:B1<=W:=τI;have hYW:W6.heap.size<W:=Y0.size;have hSW:w.heap.size<W:=S0.size;have zC3:W.heap.size<v3:=C3.size;go_wp2_with fail;refine Zc (θ7 JI S3 G3 E3 Y3 M3 C3) ?_;rintro v4 ⟨JJ,S4,G4,E4,Y4,M4,C4⟩;refine(F2 _ L c.id (λe he hi=>⟨HD.out.lat.len e he hi,(Nc.out e he).2⟩) v4 B4 E4 (by rw[Qt.out];exact hen9)).mono ?_;rintro e v5 ⟨cv,rfl,HC,kx⟩;clear Rr;obtain⟨⟨S5,G5,E5,Y5,M5,C5,JP⟩,Rr⟩:=Mx kx (θ7 S4 G4 E4 Y4 M4 C4 JJ);clear kx;have Sv:=af.le_cap HC;have Z5:=af.rd HC (λ_=>rfl);obtain⟨B7,hB7⟩:=Nq v5.heap.size;rw[hB7] at Z5;clear hB7 HC;obtain⟨Ks,VT⟩:=Nq (aP c.id L);rw[VT] at Z5 Sv hkl VU;obtain⟨ca,cc,rfl,-⟩:=Z5.slice;replace Sv:=Sv ca _ cc rfl;have Vd:(∀x ∈ Ks,0<=x.2)/\(Ks.map Prod.snd).sum<=1099511627776:=by rw[<- VT];exact hfw.out
   have hsc2:∀(i k:Nat) c d,i<=k->Ks[i]?=some c->Ks[k]?=some d->c.1<=d.1:=by rw[<- VT];exact OV.out
   have htc2:∀x ∈ Ks,0<=x.1/\x.1<=Mb:=by rw[<- VT];exact htc.out
   obtain⟨kn,PD⟩:=Nq Ks.length;rw[PD] at Z5 Sv hkl ⊢;have hWr:∀u,aS 2 lI u B7 (ζ ca kn cc) Ks->CB 14 #[c.r2,ζ ca kn cc] u Kz:=λu h=>yy c.r2 m12 _ Ks hsc2 Vd.1 Vd.2 u B7 h ρa;have hBu:∀u,aS 2 lI u B7 (ζ ca kn cc) Ks->CB 16 #[c.r2,ζ ca kn cc] u Bv:=λu h=>by have g:=yv c.r2 m12 _ Ks Mo VU.out hsc2 htc2 Vd.1 Vd.2 u B7 h ρa;rw[VS.out] at g;exact g
   change Hid _ at VT PD;clear hfw OV htc VU Vd hsc2 htc2;go_wp2_with fail;refine Zc (θ8 JP S5 G5 E5 Y5 M5 C5 Z5) ?_;rintro v6 ⟨JT,S6,G6,E6,Y6,M6,C6,Z6⟩;refine(hWr _ Z6).mono ?_;rintro e v7 ⟨rfl,kx⟩;clear Rr;obtain⟨⟨S7,G7,E7,Y7,M7,C7,Z7,J7⟩,Rr⟩:=Mx kx (θ8 S6 G6 E6 Y6 M6 C6 Z6 JT);clear kx;go_upto_region 13 with (fail);refine bK (θ8 J7 S7 G7 E7 Y7 M7 C7 Z7) ?_;clear Rr;rintro v8 ⟨Ka,S8,G8,E8,Y8,M8,C8,Z8⟩ Rr;have qS:=ae S8;have qY:=ae Y8;have qC:=ae C8;refine Wq ?_
   repeat (go_big_quiet_step ((first
     | (go_at_call 16;(with_reducible exact bZ (hBu _ (Z8.below (ZW _ _ _)))))
     | (go_at_call 15;(with_reducible exact bZ (hBo _))))))
   refine bB (θ8 S8 G8 E8 Y8 M8 C8 Z8 Ka) ?_;clear Rr;rintro v9 ⟨S9,G9,E9,Y9,M9,C9,Z9,Km⟩ Rr;clear qS qY qC S8 G8 E8 Y8 M8 C8 Z8;clear hWr hBu hBo;go_wp2_with fail;go_loopw [12,81] (λd k wr=>∃(a b:List EV),k=ι ε (a.length:Nat)/\L=a++b/\(d=ι ε ((bD c.id a).length:Nat))/\ah wr w #[ι ε T,ι ε Lm,ζ oa n oc] 26/\dv wr B (ζ oa n oc) Os/\aS 14 eI wr B1 (ζ (some ⟨ug0,XK,none⟩) mn sc) M/\ah wr W6 #[ζ ra rn rc,ζ ea en ec] 35/\ah wr W (fd c) 43/\aS 2 lI wr B7 (ζ ca kn cc) Ks/\aS 12 xF wr B4 (ζ ea en ec) L/\KO (λ_=>False) w wr) (λ_ k _=>en - (intOf k).toNat);case atStart=>exact⟨[],L,rfl,rfl,rfl,ρB,G9.below ρE,M9.below ρE,ρB,ρB,Z9.below ρE,E9.below ρE,Km.step0 ρE⟩
   case round=>
    obtain⟨a,b,rfl,JK,rfl,S0,G0,M0,Y0,C0,Z0,E0,JG⟩:=hrel;have zw:=JG.size;have JO:a.length+b.length=en:=by rw[<- Qt.out,JK,ZL]
    obtain⟨q,hq⟩:=Nq a.length;rw[hq] at JO ⊢;clear S9 G9 M9 Y9 C9 E9 Z9 Km;obtain⟨dn,No⟩:=Nq ((bD c.id a).length);rw[No];have Ss:=θ3 S0.r Y0.r C0.r;cases b with
    | nil=>
     have JM:¬(q:Int)<(en:Int):=ρn;have hd:=ZF JM;have KT:L=a:=ρL;have hoL:(bD c.id L).length=dn:=by rw[KT];exact No
     have hdk:dn<=kn:=by have h:=HD.out.lat.valid.cur.2;rw[hoL] at h;rw[<- PD.out,<- VT.out,jm];exact h
     change Hid _ at JO JK hq KT No hoL;by_cases hA:dn<kn
     ·obtain⟨ci,co,rfl⟩:=Z0.some (λe=>by have h:=PD.out;rw[e] at h;simp at h;omega);have hadd:({block:=ci,off:=co,spot:=none}:Addr).add (dn*2)=⟨ci,co+dn*2,none⟩:=xn ci co (dn*2);have JX:¬cc=dn:=ρa;have m1:(dn:Int)<=(kn:Int):=ρa;have m2:(kn:Int)<=(cc:Int):=ρa;have Nz:((kn - dn:Nat):Int)=(kn:Int) - dn:=ρa;go_wp2_with fail;go_loopw [117] (λk wr=>∃j:Nat,k=ι ε j/\j<=kn - dn/\ah wr w #[ι ε T,ι ε Lm,ζ oa n oc] 26/\dv wr B (ζ oa n oc) Os/\aS 14 eI wr B1 (ζ (some ⟨ug0,XK,none⟩) mn sc) M/\ah wr W6 #[ζ ra rn rc,ζ ea en ec] 35/\ah wr W (fd c) 43/\aS 12 xF wr B4 (ζ ea en ec) L/\aS 2 lI wr B7 (ζ (some ⟨ci,co,none⟩) kn cc) Ks/\KO (λ_=>False) w wr) (λk _=>(kn - dn) - (intOf k).toNat);case atStart=>exact⟨0,rfl,by omega,ρB,G0.below ρE,M0.below ρE,ρB,ρB,E0.below ρE,Z0.below ρE,JG.step0 ρE⟩
      case round=>
       obtain⟨j,rfl,hj,S5,G5,M5,Y5,C5,E5,Z5,JP⟩:=hrel;have z5:=JP.size;clear S0 G0 M0 Y0 C0 E0 Z0 JG;replace Ss:=θ3 S5.r Y5.r C5.r;by_cases Qd:j<kn - dn
       rotate_left
       ·have d6:=ZF Qd;have d6':=df ((j:Int)<((kn - dn:Nat):Int));go_wp2;go_roundw;case rel=>exact⟨ua++[c],ur,by rw[ZL,uhq.out];go_num,by rw[PO.out];simp,ρB,G5.below ρE,E5.below ρE,ρB,M5.below ρE,JP.step0 ρE⟩
        case measure=>have:=QL.out;simp[intOf] at*;omega
       have d6:=ZT Qd;have d6':=dt ((j:Int)<((kn - dn:Nat):Int));have hyj:Ks[dn+j]?=some (Ks[dn+j]'(by have:=PD.out;omega)):=List.getElem?_eq_getElem _;obtain⟨x,hx⟩:∃x,Ks[dn+j]'(by have:=PD.out;omega)=x:=⟨_,rfl⟩;rw[hx] at hyj;have hw9:=HD.out.waits (k:=dn+j) (by rw[hoL.out];omega) (by rw[VT.out];exact hyj);rw[hV.out] at hw9;have htx:0<=x.1/\x.1<=4611686018427387904:=uu WZ.out (by rw[VT.out];exact hyj);obtain⟨s9,YA⟩:=Nq (x.1+V);have RM:IntKind.u64.wrap (x.1+V)=s9:=by rw[YA];exact ZZ _ ⟨by omega,by omega⟩
       have d7:=df (s9<=ck);have RA:=Z5.rng hyj;have hgi9:ci<wr:=τx;have e9:co+(dn+j)*2=co+dn*2+j*2:=ρa;rw[e9] at RA;change Hid _ at hyj hx YA;clear hw9 e9;go_upto_region 25 with (fail);go_upto_region 26 with (refine Go.wpList_load_mid rfl 64 _ rfl ci (co+dn*2+j*2) rfl (lI x) _ RA Tryz.underlying64 rfl ρh ?_;try simp only[lI]);refine jf (θ8 JP S5 G5 M5 Y5 C5 E5 Z5) (λv=>ah v wr #[x.1,x.2] 64) ρB ?_;clear Rr Ss;rintro v6 X6 ⟨JT,S6,G6,M6,Y6,C6,E6,Z6⟩ Rr;have Ss:=X6.r;go_wp2;go_roundw;case rel=>exact⟨j+1,by go_num,by omega,ρB,G6.below ρE,M6.below ρE,ρB,ρB,E6.below ρE,Z6.below ρE,JT.step0 ρE⟩
       case measure=>simp[intOf] at*;omega
     ·obtain rfl:dn=kn:=by omega
      clear hA;have m1:(dn:Int)<=(cc:Int):=ρa;have Lx:dn - dn=0:=Nat.sub_self _;have Lw:=Z0.nilc;rcases Lw with ⟨rfl,h8,rfl⟩|⟨ad,rfl⟩
      ·have h8':=h8;subst h8';exact ξk
      ·exact ξk
    | cons e r=>
     have JM:(q:Int)<(en:Int):=ρn;have hd:=ZT JM;have Kd:L[q]?=some e:=ρC;have Le:e ∈ L:=ρP;have My:q<en:=ρa;have Wn:B4<=wr:=τJ;obtain⟨g0,off,rfl,hg,RA⟩:=E0.at Kd;have Oc:g0<wr:=ρa;have hOa:(bD c.id (a++[e])).length=dn+(if dk c.id e=true then 1 else 0):=τ4;have Vn:=JK;have hdn2:=No;change Hid _ at JO hq JK Kd No hdn2 hOa;go_upto_region 17 with (fail);go_upto_region 18 with (refine Go.wpList_load_mid rfl 52 _ rfl g0 (off+q*12) rfl (xF e) _ RA Tryz.underlying52 rfl ρh ?_;try simp only[xF]);refine jf (θ8 JG S0 G0 M0 Y0 C0 Z0 E0) (λv=>ah v wr #[ι ε e.op,β e.inn,β e.real,e.at_,e.done,ι ε e.cls,e.pk.id,ι ε e.pk.len,ι ω e.pk.h0,ι ω e.pk.h1,ι ω e.pk.h2,ι ω e.pk.h3] 52) ρB ?_;clear Rr Ss;rintro v1 X1 ⟨I',S1,G1,M1,Y1,C1,Z1,E1⟩ Rr;have Ss:=X1.r;by_cases c2:e.cls=c.id
     rotate_left
     ·have d2:(e.cls !=c.id)=true:=by simpa using c2
      have hO2:=ag (show (bD c.id (a++[e])).length=dn by rw[hOa.out,ZI (by simp[dk,c2]),Nat.add_zero]);exact ξS
     have d2:(e.cls !=c.id)=false:=by simp[c2]
     by_cases c3:e.inn=true
     ·have d3:e.inn=true:=c3;have hO2:=ag (show (bD c.id (a++[e])).length=dn by rw[hOa.out,ZI (by simp[dk,c3]),Nat.add_zero]);exact ξS
     have d3:e.inn=false:=by simpa using c3
     have ho:dk c.id e=true:=dF.2 ⟨d3,c2⟩;have hO2:=ag (show (bD c.id (a++[e])).length=dn+1 by rw[hOa.out,ZP ho]);obtain⟨x,KA,NY⟩:=HD.out.picked Vn ho;rw[VT.out,hdn2.out] at KA;rw[hV.out] at NY;have htx:0<=x.1/\x.1<=4611686018427387904:=uu WZ.out (by rw[VT.out];exact KA);have hdk:dn<kn:=by rw[<- PD.out];exact(List.getElem?_eq_some_iff.1 KA).1
     have hdk2:(dn:Int)<(kn:Int):=ρa;have d4:=df ((kn:Int)<=(dn:Int));have d4':=df (kn<=dn);obtain⟨ci,co,e8,hgi,RY⟩:=Z1.at KA;subst e8;obtain⟨s9,YA⟩:=Nq (x.1+V);have RM:IntKind.u64.wrap (x.1+V)=s9:=by rw[YA];exact ZZ _ ⟨by omega,by omega⟩
     have d5:=df (s9<e.done);have by1:v1.cell? ⟨ci,co+dn*2,none⟩=some (ι υ x.1):=RY 0 _ rfl;change Hid _ at KA YA c2 Vn;clear RY NY;go_upto_region 19 with (fail);refine bK (θ9 I' S1 G1 M1 Y1 C1 Z1 E1 X1) ?_;clear Rr Ss;rintro v2 ⟨JE,S2,G2,M2,Y2,C2,Z2,E2,X2⟩ Rr;have qS:=ae S2;have qY:=ae Y2;have qC:=ae C2;have qX:=ae X2;have by2:v2.cell? ⟨ci,co+dn*2,none⟩=some (ι υ x.1):=by have:=Z2.rng KA.out 0 _ rfl;rw[Nat.add_zero] at this;exact this
     have hci2:ci<v2:=by have:B7<=v2:=(by obtain⟨_,_,_,_,h,_⟩:=Z2;exact h);omega
     have qy:=λ(d:Nat) os=>((ZW v2 d os).cell (p:=⟨ci,co+dn*2,none⟩) hci2).trans by2;refine Wq ?_;refine nZ ?_;refine bB (θ9 S2 G2 M2 Y2 C2 Z2 E2 X2 JE) ?_;clear Rr;rintro v3 ⟨S3,G3,M3,Y3,C3,Z3,E3,X3,JI⟩ Rr;clear qS qY qC qX S2 G2 M2 Y2 C2 Z2 E2 X2;go_wp2;go_roundw;case rel=>exact⟨a++[e],r,by rw[ZL,hq.out];go_num,by rw[JK.out];simp,by rw[hO2.out];go_num,ρB,G3.below ρE,M3.below ρE,ρB,ρB,Z3.below ρE,E3.below ρE,JI.step0 ρE⟩
     case measure=>exact ξc
section
open Go.ChangeShapes Go.WideShapes Go.ChangeAt Go.RowKit
theorem kN (T Lm:Int)(u:ϗ)(L:List OI)(w:ϖ)(o:dv w w u L)(i:∀x ∈ L,Av x):CB 4 #[φ #[ι ε T,ι ε Lm,u]] w fK:=
 ET Ax T Lm u L (λx hx=>(i x hx).1) (λx hx=>(i x hx).2) w w o
namespace wholeDelayDone
theorem own:ownKnob Ψ.godebug=none:=by kernel_rfl
theorem Bd:laidOutB Ψ=true:=by kernel_rfl
theorem lifted (os:Os)(PN:os.Started)(H:Type)(enc:TypeId × ϗ->H):
  ReturnsInHanded {} Tryz.checked os 4 .any (Rows.wholeDelaySpec.pre6 enc Ψ Tryz.f4 Rows.wholeDelayRow.domain false) (Rows.wholeDelaySpec.post enc Ψ Tryz.f4 false true false false):=by
 refine returnsInHanded_of_change (C:=Tryz.checked) own PN ρh Tryz.func4
  (ChangeSpec.witness6 (enc:=enc) (C:=Tryz.checked) false ⟨#[],#[φ #[Kz,Kz,Kn]],[]⟩ 8 ρh ρh ρh ρh) ?_
 intro W base args ds gs before YC hW hcnd _;have hval:∀(j:Nat) t v,Tryz.f4.params[j]?=some t->args[j]?=some v->Value.okWide Ψ W .any base t v:=YC;have hW':=hW;obtain⟨p,q,hA0,hV,rfl,hfz,Nx⟩:=hW;have hA:DataW.TrodAll enc Ψ W 0 (λ_=>true) true Tryz.f4.params.toList args.toList ds p:=hA0;rw[Tryz.params4] at hA hval;obtain⟨v0,vs0,d0,ds0,p0,q0,hargs,rfl,rfl,h0,r0⟩:=trodAll_cons hA;obtain⟨rfl,rfl,rfl⟩:=trodAll_nil r0;obtain rfl:args=#[v0]:=by cases args;simp_all
 obtain⟨rfl,rfl⟩:=trodVars_none hV;have k0:=h0;have lt0:∀x ∈ p0,x.block<W:=by obtain⟨m,hm⟩:=k0;exact DataW.trod_lt m _ _ _ hm
 obtain⟨T0,M0,u0,L0,rfl,o0,i0⟩:=qz (hval 0 26 v0 rfl rfl) h0;clear hA0 YC;refine(kN T0 M0 u0 L0 W o0 i0).mono λe W' ⟨he,bel⟩=>?_;subst he;exact⟨_,rfl,_,_,_,[],_,[],hW',trodAll_mk1 (shut_bool Tryz.underlying4 _),(trodAll_cons_mk (Below.trod Bd ρh (of_decide_eq_true ρh) k0 bel lt0) trodAll_mk0),rfl,bel.frame _,λh=>by cases h⟩
theorem over:Rows.wholeDelayRow.holds Tryz.pinned (OpenSpec.ofChange Rows.wholeDelaySpec):=
 OpenClaim.holds_of_wide 4 Tryz.f4 rfl rfl rfl rfl rfl rfl rfl ⟨rfl,rfl,rfl,rfl,rfl⟩ rfl rfl rfl rfl rfl named Tryz.func4 Dm
  (of_decide_eq_true ρh) (by unfold Func.isWrapper;first|(rw[ZP (by decide+kernel)];kernel_rfl)|(rw[ZI (by decide+kernel)];exact⟨rfl,rfl⟩))
  (λos PN H enc _=>lifted os PN H enc)
end wholeDelayDone
theorem WholeDelay_holds:Rows.WholeDelaySaid:=wholeDelayDone.over
end
end Go.Proofs.YtfdlemkplejdnaaGreat
