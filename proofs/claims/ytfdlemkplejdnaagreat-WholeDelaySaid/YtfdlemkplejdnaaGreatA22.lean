/- WholeDelay, part 22. Conditions: none. -/
import Derived.Test.YtfdlemkplejdnaaGreatA14
import Derived.Test.YtfdlemkplejdnaaGreatA20
import Derived.Test.YtfdlemkplejdnaaGreatA21
namespace Go.Proofs.YtfdlemkplejdnaaGreat
open Go.RowKit Go.Sort
open Value renaming int->ι,pointer->ψ,slice->ζ,tuple->χ,agg->φ,map->μ,bool->β
open IntKind renaming u64->υ,i64->ε,u16->ω
open Ending renaming returned->ϰ
open Go.Proofs.Tryz renaming prog->Ψ,underlying3->Θ,underlying147->Δ,underlying152->Γ,underlying202->Φ,underlying39->Ξ,underlying207->Ω
open Go renaming World->ϖ,Value->ϗ
set_option linter.unusedVariables false
set_option linter.unusedSimpArgs false
set_option maxHeartbeats 8000000
set_option maxRecDepth 100000
theorem tD {L:List CD} {i:Int} (h:∀c,fc L i=some c->eV c=false):ep L i=none:=by
 unfold ep;cases hc:fc L i with
 | none=>rfl
 | some c=>simp[h c hc]
theorem lg {L:List CD} (h0:fc L 0=none):∀{xs:List Int} {i:Int},cf L i xs->dy L i xs
 | [],i,h=>by have h:i=0:=h;rw[h];exact h0
 | x::r,i,⟨h1,c,h2,h3,h4⟩=>⟨c,h2,h1,lg h0 h4⟩
theorem gk:∀{xs:List Int} {K:Int->List Int},∀y ∈ (aT K xs).1,y ∈ xs
 | [],_,y,h=>h
 | [i],_,y,h=>h
 | i::p::r,K,y,h=>by
  unfold aT at h;split at h
  ·rcases ZC.1 h with h|h
   ·simp[h]
   ·exact sA _ (gk y h)
  ·simp at h;simp[h]
theorem Wf.of_same {s t:SS} (h:s.Wf)(hL:t.L=s.L)(hc:∀i c,fc s.L i=some c->(t.e i).c=c)(hk:∀p j,t.kd p j≠none->s.kd p j≠none)(hl:∀j,t.lv j≠none->s.lv j≠none):t.Wf:=by obtain⟨h1,h2,h3,h4,h5,h6,h7,h8⟩:=h;refine⟨by rw[hL];exact h1,by rw[hL];exact h2,λp j hj=>by rw[hL];exact h3 p j (hk p j hj),by rw[hL];exact h4,λi c hh=>hc i c (by rw[<- hL];exact hh),λj hj=>?_,by rw[hL];exact h7,by rw[hL];exact h8⟩;rw[hL];exact h6 j (hl j hj)
theorem fJ (s:SS)(i:Int):(s.sleep1 i).L=s.L/\(∀j,((s.sleep1 i).e j).c=(s.e j).c/\((s.sleep1 i).e j).q=(s.e j).q)/\(s.sleep1 i).lv=s.lv/\(s.sleep1 i).A=s.A/\(∀p j,(s.sleep1 i).kd p j≠none->s.kd p j≠none):=by
 unfold SS.sleep1;refine⟨rfl,λj=>?_,rfl,rfl,λp j h=>?_⟩
 ·simp only[];split
  ·dsimp only;split<;>exact⟨rfl,rfl⟩
  ·exact⟨rfl,rfl⟩
 ·simp only[] at h;unfold ax at h;split at h
  ·rename_i e;unfold aO at h;split at h
   ·exact az rfl h
   ·rw[e];exact h
  ·exact h
theorem Wf.sleep1 {s:SS} (h:s.Wf)(i:Int):(s.sleep1 i).Wf:=by obtain⟨h1,h2,h3,h4,h5⟩:=fJ s i;exact Wf.of_same h h1 (λj c hc=>by rw[(h2 j).1];exact h.ec j c hc) h5 (λj hj=>by rw[<- h3];exact hj)
theorem xG {L:List CD} (h:(L.map CD.id).Nodup) {c:CD} (hc:c ∈ L):fc L c.id=some c:=by
 induction L with
 | nil=>cases hc
 | cons a r ih=>
  rw[fV,ZD] at h;unfold fc;rcases ZC.1 hc with rfl|hc
  ·rw[ZP rfl]
  ·rw[ZI (λe=>h.1 (by rw[<- e];exact List.mem_map_of_mem hc))];exact ih h.2 hc
theorem gw {w:ϖ} {T M:Nat} {L:List CD} (h:aF w T M L):(L.map CD.id).Nodup:=by have:=aB.nodup h.2.1;rwa [tl,List.map_map] at this
def SS.anew (s:SS)(xs:List Int):SS:={s with e:=λj=>if j ∈ xs then {s.e j with sh:=CH.zero} else s.e j}
theorem vw (s:SS)(xs:List Int)(x:Int):s.anew (xs++[x])=(s.anew xs).setE x {(s.anew xs).e x with sh:=CH.zero}:=by
 unfold SS.anew SS.setE
 congr 1
 funext j
 unfold ax;simp only[ZM,ZS];by_cases h1:j=x
 ·subst h1;rw[ZP (.inr rfl),ZP rfl];split<;>rfl
 ·rw[ZI h1];by_cases h2:j ∈ xs
  ·rw[ZP (.inl h2),ZP h2]
  ·rw[ZI (by simp[h1,h2]),ZI h2]
theorem xq (s:SS):s.anew []=s:=by unfold SS.anew;simp
theorem jV:CH.zero.ok/\(0<=CH.zero.t/\CH.zero.t<=Ma):=by refine⟨⟨?_,?_⟩,by decide⟩<;>(unfold LN.ok CH.zero ai;simp)
theorem rt {s:SS} {i p:Int} {m:TM} (hp:(s.e i).c.par=p)(hm:aO (s.kd p) i none=m)(h:¬∀j,m j=none):s.sleep1 i={s with kd:=ax s.kd p m}:=by subst hp hm;unfold SS.sleep1;simp only[ZI h]
theorem tR {s:SS} {i p:Int} {m:TM} (hp:(s.e i).c.par=p)(hm:aO (s.kd p) i none=m)(h:∀j,m j=none)(Nx:(s.L.map CD.id).Nodup)(ec:∀j c,fc s.L j=some c->(s.e j).c=c):s.sleep1 i=SS.anew {s with kd:=ax s.kd p m} (aM (λc=>decide (c.par=p)) s.L):=by
 subst hp hm;unfold SS.sleep1 SS.anew;simp only[ZP h]
 congr 1
 funext j
 have:(j ∈ aM (λc=>decide (c.par=(s.e i).c.par)) s.L)↔((fc s.L j).isSome=true/\(s.e j).c.par=(s.e i).c.par):=by
  rw[ng];constructor
  ·rintro⟨c,h1,h2,rfl⟩;have:=xG Nx h1;refine⟨by rw[this];rfl,?_⟩;rw[ec _ c this];simpa using h2
  ·rintro⟨h1,h2⟩;obtain⟨c,hc⟩:=Option.isSome_iff_exists.1 h1;refine⟨c,(aL hc).1,?_,(aL hc).2⟩;rw[<- ec _ c hc];simpa using h2
 by_cases h2:j ∈ aM (λc=>decide (c.par=(s.e i).c.par)) s.L
 ·rw[ZP h2,ZP (this.1 h2)]
 ·rw[ZI h2,ZI (λq=>h2 (this.2 q))]
theorem sQ (o:aV)(a:Ad)(s:SS)(i:Int)(w:ϖ)(H:ar o w a s)(hn:∀c,fc s.L i=some c->eV c=false):
  CB 165 #[a.S,ι ε i] w (χ #[]):=by
 have S':=H.1;have A':=H.2.2.2.2.1;have Rr:=S'.r;unfold CB;go_in;go_wp2_with fail;refine(vr s.A a.ON a.A a.O a.C o s.L i w A' (tD hn)).mono ?_;rintro e v ⟨rfl,rfl⟩;go_wp2;go_returns;exact⟨rfl,ρE⟩
theorem np:∀{xs:List Int} {K:Int->List Int},(aT K xs).1.length<=xs.length
 | [],_=>ZR _
 | [i],_=>ZR _
 | i::p::r,K=>by
  unfold aT;split
  ·have:=np (xs:=p::r) (K:=ax K p (dB i (K p)));simp only[uo] at*;omega
  ·simp
theorem aj.size {w:ϖ} {b:Nat} {qv:ϗ} {x:EN} (h:aj w b qv x):b<w:=ah.size h
theorem AU (o:aV)(a:Ad)(s:SS)(i:Int)(xs:List Int)(c:CD)(w:ϖ)(H:ar o w a s)(W:s.Wf)(hc:fc s.L i=some c)(hs:eV c=true)(hl:c.lf=true)(hi:s.A.is i=true)(hp:cf s.L i xs)(LA:xs≠[])(hx:xs.length<=1000)(NJ:xs.Nodup)(hK:∀y ∈ 0::xs.tail,s.A.K y≠[]):Calls Ψ 165 #[a.S,ι ε i] w λe w'=>e=ϰ (χ #[])/\∃o',ar o' w' a (s.sleep i xs)/\(∀x,x<w.heap.size->o' x=o x)/\KO (λx=>(o x).mine) w w':=by
 have H0:=H.own (o':=o.more w .no) (λx hx=>aV.more_lt hx);have S':=H0.1;have A':=H0.2.2.2.2.1;have T':=H0.2.1;have Nx:=gw T';have Rr:=S'.r;go_in;go_wp2_with fail;refine(Dh s.A a.ON a.A a.O a.C _ s.L i xs c w A' hc hs hl hi hp W.nz LA hx NJ hK).mono ?_;rintro e v1 ⟨u,rfl,G1,A1,kx⟩;have H1:=H0.actTo A1 (λ_ _=>rfl) kx;have NM:∀x,x<w.heap.size->o.more w .no x=o x:=λx hx=>aV.more_lt hx;have I':KO (λx=>(o x).mine) w v1:=kx.mono (λx hx f=>by (try dsimp only at f);rw[NM x hx] at f;show TG.mine _;intro e;rw[e] at f;exact f);obtain⟨ys,Ke⟩:=Nq ((aT s.A.K xs).1);rw[Ke] at G1;have Nz:∀y ∈ ys,y ∈ xs:=by rw[<- Ke];exact gk
 have QB:ys.length<=1000:=by rw[<- Ke];exact ZK np hx
 obtain⟨oa,oc,rfl⟩:=G1.slice;have nz1:∀x,some x=(Value.slice oa ys.length oc).ownBlock->o.more w .no x=.no:=λx hx=>aV.more_ge (G1.own_ge x hx.symm).1;obtain⟨s0,Lx⟩:=Nq ({s with A:=⟨ax s.A.on i false,(aT s.A.K xs).2⟩}:SS);have W1:s0.Wf:=τn;have eL0:s0.L=s.L:=by rw[<- Lx]
 rw[Lx] at H1;have QX:∀y ∈ xs,∃c,fc s.L y=some c:=eQ (lg W.nz hp);have z1:=kx.size;have MP:s.sleep i xs=ys.foldl SS.sleep1 s0:=by unfold SS.sleep;rw[ZP ⟨by rw[W.ec i c hc];exact hs,hi⟩,Ke,Lx]
 change Hid _ at MP Lx Ke Nz QX;clear S' A' T' A1 kx;go_wp2_with fail;go_loopw [24] (λk wr=>∃(a1 b1:List Int) (o1:aV),k=ι ε (a1.length:Nat)/\ys=a1++b1/\ar o1 wr a (a1.foldl SS.sleep1 s0)/\(a1.foldl SS.sleep1 s0).Wf/\(a1.foldl SS.sleep1 s0).L=s.L/\HI wr w (ζ oa ys.length oc) ys/\(∀x,some x=(Value.slice oa ys.length oc).ownBlock->o1 x=.no)/\(∀x,x<w.heap.size->o1 x=o x)/\KO (λx=>(o x).mine) w wr) (λk _=>ys.length - (intOf k).toNat);case atStart=>exact⟨[],ys,_,rfl,rfl,H1,W1,eL0,G1,nz1,NM,I'⟩
 case round=>
  obtain⟨a1,b1,o1,rfl,JK,H0,W0,eL,G0,nz0,Vw,JG⟩:=hrel;clear H1 G1 nz1 NM I' W1;have JO:a1.length+b1.length=ys.length:=by rw[JK,ZL]
  obtain⟨q,hq⟩:=Nq a1.length;rw[hq] at JO ⊢;have zw:=JG.size;cases b1 with
  | nil=>have JM:¬q<ys.length:=ρn;have hd:=ZF JM;have QA:a1=ys:=ρL;rw[QA] at H0;change Hid _ at JO hq;clear JK QA;go_wp2_with fail;go_end0;exact⟨rfl,_,(H0.below ρE).same MP.out.symm,Vw,JG.step0 ρE⟩
  | cons x r=>
   have JM:q<ys.length:=ρn;have hd:=ZT JM;have MS:ys[q]?=some x:=ρC;have JX:ys≠[]:=ρP;obtain⟨c,hc⟩:=QX.out x (Nz.out x ρP);have Ly:(a1++[x]).foldl SS.sleep1 s0=(a1.foldl SS.sleep1 s0).sleep1 x:=by rw[List.foldl_append];rfl
   obtain⟨s1,KI⟩:=Nq (a1.foldl SS.sleep1 s0);rw[KI] at H0 W0 eL Ly;rw[<- eL] at hc;obtain⟨Us,NS,g0,e0,Kv,e1,_⟩:=af.at G0 (λ_=>rfl);have e1:=e1 JX;obtain⟨rfl,-,rfl⟩:=ZV e0;subst e1;obtain⟨cx,gx,bx⟩:=HI.cell G0 q x MS;have W3:=Wf.sleep1 W0 x;have eL3:=(fJ s1 x).1.trans eL;obtain⟨Sh,Zs,MV,XS,-,-,Nt,YU,oS,oT,oM,Ty,TB⟩:=id H0;obtain⟨b,qv,hb,Kc,Rx,ob,ok⟩:=XS.at hc;obtain⟨p,hp⟩:=Nq ((s1.e x).c.par);have Np:bR s1.L p=true:=by rw[<- hp,Kc];exact W0.tree c (aL hc).1
   obtain⟨t,fp,ht,XX,NU,-⟩:=YU.out Np;have Ll:=W0.ids p;have Th:=W0.len;obtain⟨m,hm⟩:=Nq (aO (s1.kd p) x none);have lB:=((am Δ Θ MV x (z:=Kp) ρm).2.trans (by rw[hb];try rfl));have lX:=(aj.c2 Rx).trans (by rw[hp]);have lK:=((am Γ Θ Nt p (z:=Kp) ρm).2.trans (by rw[ht];try rfl));have Ss:=Sh.r;change Hid _ at JK hq Kv JO KI Ly eL hp hb ht hc Kc Ll hm eL3;clear JX XS YU MV Rx;go_wp2_with fail;refine(Eu t (s1.kd p) fp x (s1.L.map CD.id) wr XX (λj hj=>i8 ((Ll.out j hj).imp λc h=>h.1)) (by rw[px];omega)).mono ?_;rintro e v3 ⟨er,rfl,TT⟩;rw[hm.out] at TT;have H3:=H0.kdTo Np ht.out NU TT;obtain⟨fp3,T3,hfp3,kx⟩:=TT;have zz:=kx.size;have JI:=JG.trans kx (by intro y hy f;show TG.mine _;rw[<- Vw y hy,NU y f];simp[TG.mine]);have G3:=af.ko G0 kx (λy _ hy f=>by have h1:=nz0 y hy;rw[NU y f] at h1;cases h1);have YK:∀y,y<w.heap.size->o1.more wr (.kd p) y=o y:=λy hy=>(aV.more_lt ρa).trans (Vw y hy);have nz3:∀y,some y=(Value.slice g0 ys.length oc).ownBlock->o1.more wr (.kd p) y=.no:=λy hy=>(aV.more_lt (G0.own_ge y hy.symm).2).trans (nz0 y hy);obtain⟨LP,LG,-,-,-,-,NO,-,-⟩:=id H3;have lK3:=((am Γ Θ NO p (z:=Kp) ρm).2.trans ρT);replace Ss:=θ2 Sh.r LP.r;clear lB lX lK Sh Nt Zs XX H0 G0 nz0 Vw JG kx cx gx bx;go_wp2_with fail;refine(CL t m fp3 v3 T3).mono ?_;rintro e u ⟨n,rfl,hn,rfl⟩;by_cases h0:n=0
   rotate_left
   ·have hd:=dt ((0:Int)<(n:Int));have he:=rt hp.out hm.out (λh=>h0 (hn.2 h));change Hid _ at he hn;go_wp2;go_roundw;case rel=>exact⟨a1++[x],r,_,by rw[ZL,hq.out];go_num,by rw[JK.out];simp,by rw[Ly.out,he.out];exact H3.below ρE,by rw[Ly.out];exact W3,by rw[Ly.out];exact eL3.out,af.below G3 ρE,nz3,YK,JI.step0 ρE⟩
    case measure=>exact ξc
   ·subst h0;have he:=tR hp.out hm.out (hn.1 rfl) (by rw[eL.out];exact Nx) W0.ec;change Hid _ at he hn;go_wp2_with fail;refine(jY a.T a.M _ p _ LG Th).mono ?_;rintro e v4 ⟨u,rfl,C4,kx⟩;have H4:=H3.below kx;have G4:=af.below G3 kx;have JJ:=JI.step0 kx;have z4:=kx.size;obtain⟨cs,Lw⟩:=Nq (aM (λc=>decide (c.par=p)) s1.L);rw[show aM (λc=>decide (c.par=p)) ({s1 with kd:=ax s1.kd p m}:SS).L=cs from Lw] at C4;rw[Lw] at he;have Ue:∀y ∈ cs,∃c,fc s1.L y=some c:=by rw[<- Lw];exact λy hy=>iu hy
    have KR:cs.length<=1000:=by rw[<- Lw,aM,List.length_mergeSort,px];exact ZK (ZH _ _) Th
    obtain⟨ca,cc,rfl⟩:=C4.slice;obtain⟨s3,MI⟩:=Nq ({s1 with kd:=ax s1.kd p m}:SS);have e3L:s3.L=s1.L:=by rw[<- MI]
    have e3e:s3.e=s1.e:=by rw[<- MI]
    rw[MI] at H4 he;obtain⟨o3,Xk⟩:=Nq (o1.more wr (.kd p));rw[Xk] at H4 nz3 YK;change Hid _ at Lw Ue MI e3L e3e Xk;clear lK3 LP LG NO H3 G3 JI kx T3;go_wp2_with fail;obtain⟨wo,hwo⟩:∃wo:ϖ,wo=wr:=⟨_,rfl⟩;go_loopw [61] (λk wr=>∃(a2 b2:List Int),k=ι ε (a2.length:Nat)/\cs=a2++b2/\ar o3 wr a (s3.anew a2)/\HI wr v3 (ζ ca cs.length cc) cs/\HI wr w (ζ g0 ys.length oc) ys/\KO (λx=>(o x).mine) w wr) (λk _=>cs.length - (intOf k).toNat);case atStart=>exact⟨[],cs,rfl,rfl,by rw[xq];exact H4,C4,G4,JJ⟩
    case round=>
     obtain⟨a2,b2,rfl,YD,H5,C5,G5,JP⟩:=hrel;clear H4 C4 G4 JJ;have hac:a2.length+b2.length=cs.length:=by rw[YD,ZL]
     obtain⟨q2,LU⟩:=Nq a2.length;rw[LU] at hac ⊢;have zw5:=JP.size;cases b2 with
     | nil=>
      have KQ:¬q2<cs.length:=by simp at hac;omega
      have ME:=ZF KQ;have QA:a2=cs:=by rw[YD,ZA]
      rw[QA] at H5;change Hid _ at hac LU;clear YD QA;go_wp2;go_roundw;case rel=>exact⟨a1++[x],r,o3,by rw[ZL,hq.out];go_num,by rw[JK.out];simp,by rw[Ly.out,he.out];exact H5.below ρE,by rw[Ly.out];exact W3,by rw[Ly.out];exact eL3.out,af.below G5 ρE,nz3,YK,JP.step0 ρE⟩
      case measure=>exact ξc
     | cons y r2=>
      have KQ:q2<cs.length:=by simp at hac;omega
      have ME:=ZT KQ;have hyq:cs[q2]?=some y:=by rw[YD,<- LU];simp
      have hne2:cs≠[]:=by rw[YD];simp
      obtain⟨d,U'⟩:=Ue.out y (by rw[YD];simp);have PI:=vw s3 a2 y;have e5L:(s3.anew a2).L=s1.L:=e3L.out;obtain⟨s5,Xr⟩:=Nq (s3.anew a2);rw[Xr] at H5 PI e5L;rw[<- e5L] at U';obtain⟨ca2,cap3,g1,e0,hcap3,e1,_⟩:=af.at C5 (λ_=>rfl);have e1:=e1 hne2;obtain⟨rfl,-,rfl⟩:=ZV e0;subst e1;obtain⟨cy,gy,by2⟩:=HI.cell C5 q2 y hyq;obtain⟨ML,-,Uw,E'5,-,-,-,-,oS5,-⟩:=id H5;obtain⟨b5,qv5,KD,Nw,E5,-⟩:=E'5.out U';have KP:aj wr b5 qv5 (s5.e y):=E5.1;have lB:=((am Δ Θ Uw y (z:=Kp) ρm).2.trans (by rw[KD];try rfl));replace Ss:=ML.r;have zb5:=KP.size;change Hid _ at YD LU hac Xr PI e5L KD Nw U';clear E'5 Uw hne2;go_wp2_with (first|(refine aj.ssh KP CH.zero (.tmp 73) (.tmp 71) ρs ρs ρs ρs ?_;intro v6 LH kx zx));have Rb:=E5.2.1;have H6:=H5.entTo (i:=y) (x:={s5.e y with sh:=CH.zero}) U'.out KD.out Nw.out kx (λk e=>.inl (by rw[e];exact Rb)) ⟨LH,Rb,E5.2.2.1.ko kx (λk hk e=>by rw[e,Rb] at hk;cases hk),⟨E5.2.2.2.1,E5.2.2.2.2.1,E5.2.2.2.2.2.1,jV.1,jV.2,E5.2.2.2.2.2.2.2.2⟩⟩;have C6:=af.ko C5 kx (λz _ hz e=>af.ne_blk C5 KP ρf (by rw[<- e];exact hz));have G6:=af.ko G5 kx (λz _ hz e=>af.ne_blk G5 KP ρf (by rw[<- e];exact hz));have JT:=JP.trans kx (by intro z hz e;show TG.mine _;rw[<- YK z hz,e,Rb];simp[TG.mine]);clear kx;go_roundw;case rel=>exact⟨a2++[y],r2,by rw[ZL,LU.out];go_num,by rw[YD.out];simp,by rw[PI.out];exact H6.below ρE,af.below C6 ρE,af.below G6 ρE,JT.step0 ρE⟩
      case measure=>have:=hac.out;simp[intOf] at*;omega
open Classical in
noncomputable def oR (m:TM):Bool:=decide (∃j,m j≠none)
open Classical in
theorem Gk (B:Nat)(m:TM)(fp:Nat->Prop)(w:ϖ)(H:aQ 211 w B m fp)(v:Int)(x:Bool)(hv:kf m=v)(hx:oR m=x):
  CB 156 #[B] w (χ #[v,β x]):=by
 refine(Iz B m fp w H).mono ?_;rintro e w' ⟨u,ok,rfl,hu,hb⟩;have e2:oR m=ok:=by
  unfold oR;cases ok with
  | false=>exact ZF (λ⟨j,hj⟩=>hj (hu.2 j))
  | true=>obtain⟨⟨j,q,hq,_⟩,_⟩:=hu;exact ZT ⟨j,by rw[hq];simp⟩
 exact⟨by rw[<- hv,Be hu,<- hx,e2],hb⟩
theorem qi {m:TM} (h:∀j q,m j=some q->0<=q.1/\q.1<=Mc):0<=kf m/\kf m<=Mc:=by
 have key:∀v,iZ m v true->0<=v/\v<=9223372036854775808:=by rintro v ⟨⟨j,q,hq,e⟩,_⟩;have:=h j q hq;omega
 unfold kf;split
 ·rename_i RF;exact key _ (Classical.choose_spec RF)
 ·omega
theorem wI {c:CH} {m d n low p:Int} (hm:aq m)(hd:0<=d)(hn:aq n)(hl:0<=low/\low<=Mc)(hp:aq p)(oc:c.ok):(c.wake m d n low p).ok/\(0<=(c.wake m d n low p).t/\(c.wake m d n low p).t<=Ma):=by
 have os:=RN.start_ok (m:=m) (d:=d) (n:=n) hm hd hn hl (iY hp);unfold CH.wake CH.ok;simp only[];split
 ·exact⟨RN.meet_ok oc os,RN.time_rng (RN.meet_ok oc os) p⟩
 ·exact⟨os,RN.time_rng os p⟩
theorem vC {c:CH} {m d n now p:Int} (hm:aq m)(hd:0<=d)(hn:aq n)(hl:0<=now/\now<=Mc)(hp:aq p)(oc:c.ok):(c.capped m d n now p).ok/\(0<=(c.capped m d n now p).t/\(c.capped m d n now p).t<=Ma):=by
 have os:=RN.start_ok (m:=m) (d:=d) (n:=n) hm hd hn hl (iY hp);unfold CH.capped;split
 ·exact jV
 ·unfold CH.ok;simp only[];split
  ·have:=RN.reach_rng (RN.meet_ok oc os) (p*65536);exact⟨RN.meet_ok oc os,by omega⟩
  ·have:=RN.reach_rng os (p*65536);exact⟨os,by omega⟩
theorem Cm {l:LF} {m d n x h:Int} (hm:aq m)(hd:0<=d)(hn:aq n)(hx:0<=x/\x<=Mc)(ol:l.ok):((l.woke m d n x).headed h).ok/\(0<=((l.woke m d n x).headed h).e/\((l.woke m d n x).headed h).e<=Ma)/\(0<=((l.woke m d n x).headed h).t/\((l.woke m d n x).headed h).t<=Ma):=by
 have hy:=iY ol.2.2;have o1:=RN.start_ok (m:=m) (d:=d) (n:=n) hm hd hn hx hy;have o2:=RN.ready_ok (m:=m) (d:=d) (n:=n) hm hn ⟨hx.1,by omega⟩ hy;have ok:(l.woke m d n x).ok:=by
  refine⟨?_,?_,ol.2.2⟩
  ·show (if l.has then _ else _:RN).ok;split
   ·exact RN.meet_ok ol.1 o1
   ·exact o1
  ·show (if l.has then _ else _:RN).ok;split
   ·exact RN.meet_ok ol.2.1 o2
   ·exact o2
 have:=uw (x:=false) (s:=0) (h:=h) ok;simpa using this
theorem oN {m d n:Int} (h0:0<=m/\0<=d/\0<=n)(h:Go.Proofs.YtfdlemkplejdnaaGreat.kd m d n≠0):(0<=m/\m<=Ma)/\(0<=d/\d<=Ma)/\(0<=n/\n<=Ma):=by have:=ia h;omega
theorem Wf.duesTo {s:SS} (h:s.Wf) {i:Int} {c:CD} {l:LF} (hc:fc s.L i=some c)(hl:c.lf=true):(s.duesTo i l).Wf:=by
 obtain⟨h1,h2,h3,h4,h5,h6,h7,h8⟩:=h;have ee:∀j,((s.duesTo i l).e j).c=(s.e j).c/\((s.duesTo i l).e j).q=(s.e j).q:=λj=>ηJ
 refine⟨h1,h2,h3,h4,λj d hd=>by rw[(ee j).1];exact h5 j d hd,λj hj=>?_,h7,h8⟩;by_cases e:j=i
 ·rw[e];exact⟨c,hc,hl⟩
 ·refine h6 j ?_;have hj:aO s.lv i (some (l.e,l.t)) j≠none:=hj;unfold aO at hj;rw[ZI e] at hj;exact hj
theorem ui (now:Int)(s:SS)(i:Int):(s.wake1 now i).L=s.L/\(s.wake1 now i).kd=s.kd/\(s.wake1 now i).A=s.A/\(s.wake1 now i).lv=s.lv/\(∀j,((s.wake1 now i).e j).c=(s.e j).c/\((s.wake1 now i).e j).q=(s.e j).q):=by refine⟨rfl,rfl,rfl,rfl,λj=>?_⟩;unfold SS.wake1 SS.setE ax;simp only[];split<;>rename_i e<;>first|(rw[e];exact⟨rfl,rfl⟩)|exact⟨rfl,rfl⟩
theorem mF (now:Int):∀(xs:List Int)(s:SS),(xs.foldl (SS.wake1 now) s).L=s.L/\(xs.foldl (SS.wake1 now) s).kd=s.kd/\(xs.foldl (SS.wake1 now) s).A=s.A/\(xs.foldl (SS.wake1 now) s).lv=s.lv/\(∀j,((xs.foldl (SS.wake1 now) s).e j).c=(s.e j).c/\((xs.foldl (SS.wake1 now) s).e j).q=(s.e j).q)
 | [],s=>⟨rfl,rfl,rfl,rfl,λ_=>⟨rfl,rfl⟩⟩
 | x::r,s=>by obtain⟨h1,h2,h3,h4,h5⟩:=mF now r (s.wake1 now x);obtain⟨g1,g2,g3,g4,g5⟩:=ui now s x;exact⟨h1.trans g1,h2.trans g2,h3.trans g3,h4.trans g4,λj=>⟨(h5 j).1.trans (g5 j).1,(h5 j).2.trans (g5 j).2⟩⟩
theorem iy:∀{xs:List Int} {K:Int->List Int},∀y ∈ (bp K xs).1,y ∈ xs
 | [],_,y,h=>h
 | [i],_,y,h=>h
 | i::p::r,K,y,h=>by
  unfold bp at h;split at h
  ·rcases ZC.1 h with h|h
   ·simp[h]
   ·exact sA _ (iy y h)
  ·simp at h;simp[h]
theorem qt:∀{xs:List Int} {K:Int->List Int},(bp K xs).1.length<=xs.length
 | [],_=>ZR _
 | [i],_=>ZR _
 | i::p::r,K=>by
  unfold bp;split
  ·have:=qt (xs:=p::r) (K:=ax K p (dI i (K p)));simp only[uo] at*;omega
  ·simp
theorem Dt (o:aV)(a:Ad)(s:SS)(now i h:Int)(xs:List Int)(c:CD)(b:Nat)(w:ϖ)(H:ar o w a s)(W:s.Wf)(Vm:∀p j q,s.kd p j=some q->0<=q.1/\q.1<=Mc)(hc:fc s.L i=some c)(Lb:c.lf=true)(hq:(s.e i).q≠[])(hb:lk i a.LB=some (ψ b))(hnow:0<=now/\now<=4611686018427387904)(hh:-Mc<=h/\h<=Mb)(hs:eV c=true->cf s.L i xs/\xs≠[]/\xs.length<=1000/\s.A.is i=false):Calls Ψ 128 #[a.S,now,b,ι ε h] w λe w'=>e=ϰ (χ #[])/\∃o',ar o' w' a (s.wake now i h xs)/\(∀x,x<w.heap.size->o' x=o x)/\KO (λx=>(o x).mine) w w':=by
 obtain⟨S',T',MJ,E',A',⟨Te,V',Qc⟩,Mj,D',oS,oT,oM,Ty,TB⟩:=id H;obtain⟨b2,qv,JR,Kc,E0,-⟩:=E'.out hc;have eb:=iR (hb.symm.trans JR);subst eb;obtain⟨X0,ob,Q',ok⟩:=E0;have X':aj w b qv (s.e i):=X0;have Nn:(s.e i).c.id=i:=by rw[Kc];exact(aL hc).2
 obtain⟨rl,Mz⟩:=Nq (SS.real (s.e i).c);have rng:0<=(s.e i).c.r0/\0<=(s.e i).c.r1/\0<=(s.e i).c.r2:=by rw[Kc];exact(T'.2.2 c (aL hc).1).2.2.1
 have rk:=oN rng (by rw[Kc];exact(W.cls c (aL hc).1).1);have Ll:=W.lvs;have Th:=W.len;have okd:=ok.1;have okn:=(show 0<=now/\now<=Mc by omega);obtain⟨L2,MD⟩:=Nq (((s.e i).du.woke (s.e i).c.r0 (s.e i).c.r1 (s.e i).c.r2 now).headed h);have Rc:L2.ok/\(0<=L2.e/\L2.e<=Ma)/\(0<=L2.t/\L2.t<=Ma):=by rw[<- MD];exact Cm rk.1 rk.2.1.1 rk.2.2 okn okd
 obtain⟨s1,KI⟩:=Nq (if rl then s.duesTo i L2 else s);change Hid _ at Nn Kc Qc Ll ok;have PH:=ag Mz;change Hid _ at KI MD;clear Mz T' MJ E' A' Mj D' JR;have Rr:=S'.r;have JU:=((aj.c1 X').trans τ0);go_in;go_wp2_with (refine aj.lcl X' (.tmp 23) ρs ρs ρs ?_);go_wp2_with fail;refine(rb _ (s.e i).c.id (s.e i).c.par (s.e i).c.lf (s.e i).c.r0 (s.e i).c.r1 (s.e i).c.r2 (s.e i).c.l0 (s.e i).c.l1 (s.e i).c.l2 (s.e i).c.u0 (s.e i).c.u1 (s.e i).c.u2 (s.e i).c.pk (s.e i).c.by_ rng rl PH.out).mono ?_;rintro e v1 ⟨rfl,kx⟩;obtain⟨KC,KW,VK,I'⟩:=Mw kx (θ4 S' X' Q' (Ks (λy=>y=b) w));clear kx S' Q';replace Rr:=KC.r;replace JU:=((aj.c1 KW).trans τ0);go_upto_if 25 with (fail);go_cut [8] (λs8 wx=>s8=ι ε i/\∃o1,ar o1 wx a s1/\(∀x,x<w.heap.size->o1 x=o x)/\KO (λx=>(o x).mine) w wx);case first=>
  rcases rl with _|_
  ·have he:s=s1:=by have:=KI.out;simpa using this
   replace he:=ag he;go_wp2;go_meet;exact⟨rfl,o,((H.entTo hc hb Kc.out (I'.step0 ρE) τo ⟨KW.below ρE,ob,VK.below ρE,ok.out⟩).same (kp s i)).same he.out,λ_ _=>rfl,(I'.step0 ρE).mono σN⟩
  have he:s.duesTo i L2=s1:=by have:=KI.out;simpa using this
  replace he:=ag he;go_wp2_with fail;refine bK (θ4 I' KC KW VK) ?_;clear Rr;rintro v2 ⟨JE,LJ,K6,TQ⟩ Rr;replace JU:=((aj.c1 K6).trans τ0);have NC:=ae LJ;have J8:=λd os=>((aj.c1 (K6.below (ZW _ d os))).trans τ0);refine Ws 15 (nY ?_)
  repeat (first
   | (refine aj.qdu K6 (.tmp 29) ρs ρs ρs ?_;(try simp only[Act.put,List.setIfInBounds_toArray,List.set_cons_succ,List.set_cons_zero]))
   | (refine aj.qrt K6 (.tmp 34) ρs ρs ρs ?_;(try simp only[Act.put,List.setIfInBounds_toArray,List.set_cons_succ,List.set_cons_zero]))
   | (go_big_quiet_step ((first
    | (go_at_call 154;(with_reducible exact bZ (Ag (s.e i).du L2 _ _ _ now h _ rk.1 rk.2.1 rk.2.2 okn okd hh MD.out)))))))
  refine bB (θ4 LJ K6 TQ JE) ?_;clear Rr;rintro v3 ⟨LP,K7,XV,JI⟩ Rr;replace JU:=((aj.c1 K7).trans τ0);clear NC J8 LJ K6 TQ;refine aj.sdu K7 L2 (.tmp 40) (.tmp 38) ρs ρs ρs ρs ?_;intro v4 K8 kx zx;have N5:=LP.ko kx τR;have WF:=XV.ko kx (λy e f=>by (try dsimp only at f);rw[f,ob] at e;cases e);have JJ:KO (λy=>y=b) w v4:=JI.trans kx σh;replace Rr:=N5.r;replace JU:=((aj.c1 K8).trans ρw);replace J0:=(aj.c36 K8);replace Lt:=(aj.c37 K8);have H4:=H.entTo hc hb (x:={s.e i with du:=L2}) Kc.out JJ τo ⟨K8,ob,WF,⟨Rc.1,Rc.2.1,Rc.2.2,ok.out.2.2.2⟩⟩;have YH:KO (λx=>(o x).mine) w v4:=JJ.mono σN;have V4:=V'.ko JJ σ5;clear kx zx JJ X';have JJ:=YH;clear YH;go_wp2_with fail;refine bK (θ5 JJ H4 V4 N5 K8) ?_;clear Rr;rintro v5 ⟨JP,H5,V5,ML,KP⟩ Rr;replace JU:=((aj.c1 KP).trans ρw);replace J0:=(aj.c36 KP);replace Lt:=(aj.c37 KP);have NC:=ae ML;have J8:=λd os=>((aj.c1 (KP.below (ZW _ d os))).trans ρw);have Kq:=λd os=>(aj.c36 (KP.below (ZW _ d os)));have ND:=λd os=>(aj.c37 (KP.below (ZW _ d os)));refine Ws 15 (gC ?_);refine bB (θ5 H5 V5 ML KP JP) ?_;clear Rr;rintro v6 ⟨H6,V6,Oj,LH,JT⟩ Rr;replace JU:=((aj.c1 LH).trans ρw);replace J0:=(aj.c36 LH);replace Lt:=(aj.c37 LH);clear NC J8 Kq ND H5 V5 ML KP;go_wp2_with fail;refine(zj a.LV s.lv Te i L2.e L2.t (s.L.map CD.id) _ V6 Rc.2.1 Rc.2.2 (λj hj=>i8 ((Ll.out j hj).imp λc h=>h.1)) (by rw[px];omega)).mono ?_;rintro e v7 ⟨rfl,TT⟩;have H7:=H6.lvTo Qc.out TT;obtain⟨fp7,_,_,kx⟩:=TT;have z6:=JT.size;have Yx:∀x,x<w.heap.size->o.more v6 .lv x=o x:=λx hx=>aV.more_lt ρa;have J7:=JT.trans kx τC;clear kx H6 V6;go_wp2;go_meet;exact⟨rfl,_,(H7.below ρE).same he.out,Yx,J7.step0 ρE⟩
 case rest=>
  obtain⟨rfl,o1,H1,Vw,I'⟩:=hcut
  rename ϖ=>w1
  clear KC KW VK JU V' X';have eL:s1.L=s.L/\s1.A=s.A/\s1.kd=s.kd/\(∀j,(s1.e j).c=(s.e j).c):=by
   rw[<- KI.out];split
   ·refine⟨rfl,rfl,rfl,λj=>?_⟩;unfold SS.duesTo SS.setE ax;simp only[];split<;>rename_i e<;>first|(rw[e])|rfl
   ·exact⟨rfl,rfl,rfl,λ_=>rfl⟩
  have W1:s1.Wf:=by rw[<- KI.out];split;exact Wf.duesTo W hc Lb;exact W
  have Ud:fc s1.L i=some c:=by rw[eL.1];exact hc
  obtain⟨KC,Lu,Og,E'1,Pj,-,-,-,-⟩:=id H1;obtain⟨b2,qv2,JR,hcc1,KW,ob1,ok1⟩:=E'1.at Ud;have eb:=iR (hb.symm.trans JR);subst eb;have rng1:0<=(s1.e i).c.l0/\0<=(s1.e i).c.l1/\0<=(s1.e i).c.l2:=by rw[hcc1];exact(Lu.2.2 c (aL Ud).1).2.2.2.1
  obtain⟨z,hz⟩:=Nq (de (Go.Proofs.YtfdlemkplejdnaaGreat.kd (s1.e i).c.l0 (s1.e i).c.l1 (s1.e i).c.l2));have Lz:eV c=z:=by rw[<- hz,hcc1];rfl
  have hwk:s.wake now i h xs=if z then s1.wakeS now i xs else s1:=by unfold SS.wake;simp only[];rw[PH.out,MD.out,KI.out,Kc.out,Lz]
  have Ss:=KC.r;change Hid _ at hz hwk hcc1 Lz;have eL0:=eL;replace eL:=ag eL;clear eL0;go_wp2_with (refine aj.lcl KW (.tmp 59) ρs ρs ρs ?_);go_wp2_with fail;refine(lb _ (s1.e i).c.id (s1.e i).c.par (s1.e i).c.lf (s1.e i).c.r0 (s1.e i).c.r1 (s1.e i).c.r2 (s1.e i).c.l0 (s1.e i).c.l1 (s1.e i).c.l2 (s1.e i).c.u0 (s1.e i).c.u1 (s1.e i).c.u2 (s1.e i).c.pk (s1.e i).c.by_ rng1 z hz.out).mono ?_;rintro e y2 ⟨rfl,kx⟩;obtain⟨H2,JE⟩:=Mw kx (θ2 H1 I');have z2:=kx.size;have LJ:=KC.below kx KC.size;clear KC KW Og E'1 Pj kx H1 I';replace Ss:=LJ.r;rcases z with _|_
  ·have he:s1=s.wake now i h xs:=by have:=hwk.out;simpa using this.symm
   replace he:=ag he;go_wp2;go_returns;exact⟨rfl,o1,(H2.below ρE).same he.out,Vw,JE.step0 ρE⟩
  obtain⟨hp,LA,hx,hi⟩:=hs Lz.out;rw[<- eL.out.1] at hp;rw[<- eL.out.2.1] at hi;replace hi:=ag hi;go_wp2_with fail;refine(Fg s1.A a.ON a.A a.O a.C o1 s1.L i xs c _ H2.2.2.2.2.1 Ud Lz.out Lb hi.out hp W1.nz LA hx).mono ?_;rintro e v3 ⟨u,rfl,G3,o3,A3,oe,kx⟩;have H3:=H2.actTo A3 oe kx;have YK:∀x,x<w.heap.size->o3 x=o x:=λx hx=>(oe x (by have:=JE.size;omega)).trans (Vw x hx);have JI:=JE.trans kx (by intro x hx f;(try dsimp only at f);rw[Vw x hx] at f;show TG.mine _;intro e;rw[e] at f;exact f);obtain⟨ys,Ke⟩:=Nq ((bp s1.A.K xs).1);rw[Ke] at G3;have QB:ys.length<=1000:=by rw[<- Ke];exact ZK qt hx
  have QX:∀y ∈ ys,∃c,fc s.L y=some c:=by rw[<- Ke,<- eL.out.1];exact λy hy=>eQ (lg W1.nz hp) y (iy y hy)
  obtain⟨oa,oc,rfl⟩:=G3.slice;obtain⟨s3,MI⟩:=Nq ({s1 with A:=⟨ax s1.A.on i true,(bp s1.A.K xs).2⟩}:SS);have W3:s3.Wf:=by rw[<- MI];exact Wf.of_same W1 rfl W1.ec (λ_ _ h=>h) (λ_ h=>h)
  have e3:s3.L=s.L/\s3.kd=s.kd:=by rw[<- MI];exact⟨eL.out.1,eL.out.2.2.1⟩
  rw[MI] at H3;have MP:s.wake now i h xs=(ys.foldl (SS.wake1 now) s3).settle xs:=by rw[hwk.out];simp only[if_true];unfold SS.wakeS;rw[Ke,MI]
  have z3:=JI.size;change Hid _ at MP MI Ke QX;clear LJ A3 kx H2 hwk;go_wp2_with fail;go_loopw [74] (λk wr=>∃(a1 b1:List Int),k=ι ε (a1.length:Nat)/\ys=a1++b1/\ar o3 wr a (a1.foldl (SS.wake1 now) s3)/\HI wr y2 (ζ oa ys.length oc) ys/\KO (λx=>(o x).mine) w wr) (λk _=>ys.length - (intOf k).toNat);case atStart=>exact⟨[],ys,rfl,rfl,H3,G3,JI⟩
  case round=>
   obtain⟨a1,b1,rfl,JK,H0,G0,JG⟩:=hrel;clear H3 G3 JI;have JO:a1.length+b1.length=ys.length:=by rw[JK,ZL]
   obtain⟨q,hq⟩:=Nq a1.length;rw[hq] at JO ⊢;have zw:=JG.size;obtain⟨j1,j2,j3,j4,j5⟩:=mF now a1 s3;cases b1 with
   | nil=>have JM:¬q<ys.length:=ρn;have hd:=ZF JM;have QA:a1=ys:=ρL;rw[QA] at H0 j1 j2 j3 j4 j5;change Hid _ at JO hq;clear JK QA;have W7:(ys.foldl (SS.wake1 now) s3).Wf:=Wf.of_same W3 j1 (λj c hc=>by rw[(j5 j).1];exact W3.ec j c hc) (λp j h=>by rw[j2] at h;exact h) (λj h=>by rw[<- j4];exact h);go_wp2_with fail;refine(jp o3 a _ i xs _ (H0.below ρE) W7 (by rw[j1,e3.1,<- eL.out.1];exact lg W1.nz hp) hx).mono ?_;rintro e v9 ⟨rfl,o9,H9,oe9,kx⟩;have z9:=kx.size;have Km:=JG.trans kx (by intro x hx f;(try dsimp only at f);rw[YK x hx] at f;exact f);go_wp2_with fail;go_end0;exact⟨rfl,o9,(H9.below ρE).same MP.out.symm,λx hx=>(oe9 x ρa).trans (YK x hx),Km.step0 ρE⟩
   | cons x r=>
    have JM:q<ys.length:=ρn;have hd:=ZT JM;have MS:ys[q]?=some x:=ρC;have JX:ys≠[]:=ρP;obtain⟨d,U'⟩:=QX.out x ρP;have Ly:(a1++[x]).foldl (SS.wake1 now) s3=(a1.foldl (SS.wake1 now) s3).wake1 now x:=by rw[List.foldl_append];rfl
    have Nb:fc (a1.foldl (SS.wake1 now) s3).L x=some d:=by rw[j1,e3.1];exact U'
    have ekd:(a1.foldl (SS.wake1 now) s3).kd=s.kd:=j2.trans e3.2;have W5:(a1.foldl (SS.wake1 now) s3).Wf:=Wf.of_same W3 j1 (λj c hc=>by rw[(j5 j).1];exact W3.ec j c hc) (λp j h=>by rw[j2] at h;exact h) (λj h=>by rw[<- j4];exact h);obtain⟨s5,Xr⟩:=Nq (a1.foldl (SS.wake1 now) s3);rw[Xr] at H0 Ly Nb ekd W5;clear j1 j2 j3 j4 j5;obtain⟨Us,NS,g0,e0,Kv,e1,_⟩:=af.at G0 (λ_=>rfl);have e1:=e1 JX;obtain⟨rfl,-,rfl⟩:=ZV e0;subst e1;obtain⟨cx,gx,bx⟩:=HI.cell G0 q x MS;obtain⟨Sh,Zs,MV,XS,-,-,Nt,YU,oS5,-⟩:=id H0;obtain⟨b5,qv5,KD,Nw,E5,-⟩:=XS.out Nb;obtain⟨X5,Rb,Q'0,Od⟩:=E5;have Rx:aj wr b5 qv5 (s5.e x):=X5;obtain⟨p,Wb⟩:=Nq ((s5.e x).c.par);have Np:bR s5.L p=true:=by rw[<- Wb,Nw];exact W5.tree d (aL Nb).1
    obtain⟨t,fp,ht,XX,NU,-⟩:=YU.out Np;have kl:=oN (by rw[Nw];exact(Zs.2.2 d (aL Nb).1).2.2.2.1:0<=(s5.e x).c.l0/\0<=(s5.e x).c.l1/\0<=(s5.e x).c.l2) (by rw[Nw];exact(W5.cls d (aL Nb).1).2.1.1);have ku:=oN (by rw[Nw];exact(Zs.2.2 d (aL Nb).1).2.2.2.2:0<=(s5.e x).c.u0/\0<=(s5.e x).c.u1/\0<=(s5.e x).c.u2) (by rw[Nw];exact(W5.cls d (aL Nb).1).2.2);obtain⟨lw,hlw⟩:=Nq (kf (s5.kd p));have rlw:0<=lw/\lw<=Mc:=by rw[<- hlw,ekd];exact qi (Vm p)
    obtain⟨lk,hlk2⟩:=Nq (oR (s5.kd p));obtain⟨tt,YB⟩:=Nq ((s5.e x).tot);have rtt:0<=tt/\tt<=Ma:=by have:=Od.2.2.2.2.2.2.2;omega
    obtain⟨Uu,Qz⟩:=Nq ((s5.e x).sh.wake (s5.e x).c.l0 (s5.e x).c.l1 (s5.e x).c.l2 lw tt);have TF:=wI (p:=tt) kl.1 kl.2.1.1 kl.2.2 rlw rtt Od.2.2.2.1;rw[Qz] at TF;obtain⟨TX,hcp⟩:=Nq ((s5.e x).cp.capped (s5.e x).c.u0 (s5.e x).c.u1 (s5.e x).c.u2 now tt);have TD:=vC (p:=tt) ku.1 ku.2.1.1 ku.2.2 okn rtt Od.2.2.2.2.2.1;rw[hcp] at TD;have ocs:(s5.e x).sh.r.ok:=Od.2.2.2.1;have occ:(s5.e x).cp.r.ok:=Od.2.2.2.2.2.1;have RM:s5.wake1 now x=s5.setE x {s5.e x with sh:=Uu,cp:=TX}:=by unfold SS.wake1;rw[Wb,hlw,YB,Qz,hcp]
    change Hid _ at JK hq Kv JO Xr Ly Wb KD ht Nb Nw hlw hlk2 YB Qz hcp RM ekd Od;have hfp0:=NU;clear JX XS YU Zs NU Np U';have nby:¬a.BY=b5:=λe=>aC X5 MV e.symm;have nkm:¬a.KM=b5:=λe=>aC X5 Nt e.symm;have nfp:∀y,fp y->¬y=b5:=λy hy e=>by have h1:=hfp0 y hy;rw[e,Rb] at h1;cases h1
    have k000:KO (λy=>y=b5) wr wr:=KO.refl _ _;have k0m:=JG;clear JG;have JG:=k000;clear k000;replace Ss:=Sh.r;have Kr:=((am Δ Θ MV x (z:=Kp) ρm).2.trans ρV);have Kw:=((am Γ Θ Nt p (z:=Kp) ρm).2.trans ρT);have JU:=((aj.c2 Rx).trans ρQ);have J0:=((aj.c15 Rx).trans ρS);go_upto_region 10 with (fail);refine bK (θ8 JG Sh MV Rx Nt XX Q'0 G0) ?_;clear Rr Ss;rintro v1 ⟨I',KC,Og,KW,Ls,VL,VK,G1⟩ Rr;replace Kr:=((am Δ Θ Og x (z:=Kp) ρm).2.trans ρV);replace Kw:=((am Γ Θ Ls p (z:=Kp) ρm).2.trans ρT);replace JU:=((aj.c2 KW).trans ρQ);replace J0:=((aj.c15 KW).trans ρS);have NC:=ae KC;have Lo:=λd os=>((am Δ Θ (Og.grow d os) x (z:=Kp) ρm).2.trans ρV);have J8:=λd os=>((aj.c2 (KW.below (ZW _ d os))).trans ρQ);have Kq:=λd os=>((aj.c15 (KW.below (ZW _ d os))).trans ρS);have Lp:=λd os=>((am Γ Θ (Ls.grow d os) p (z:=Kp) ρm).2.trans ρT);refine Wq ?_
    repeat (go_big_quiet_step ((first
      | (go_at_call 156;(with_reducible exact bZ (Gk t (s5.kd p) fp _ (VL.below (ZW _ _ _)) lw lk hlw.out hlk2.out))))))
    refine bB (θ8 KC Og KW Ls VL VK G1 I') ?_;clear Rr;rintro v2 ⟨LJ,Pm,K6,OM,T02,TQ,G2,JE⟩ Rr;replace Kr:=((am Δ Θ Pm x (z:=Kp) ρm).2.trans ρV);replace Kw:=((am Γ Θ OM p (z:=Kp) ρm).2.trans ρT);replace JU:=((aj.c2 K6).trans ρQ);replace J0:=((aj.c15 K6).trans ρS);clear NC Lo J8 Kq Lp KC Og KW Ls VL VK G1;go_wp2_with fail;refine bK (θ8 JE LJ Pm K6 OM T02 TQ G2) ?_;clear Rr;rintro v3 ⟨JI,LP,Rh,K7,NO,T03,XV,G3⟩ Rr;replace Kr:=((am Δ Θ Rh x (z:=Kp) ρm).2.trans ρV);replace Kw:=((am Γ Θ NO p (z:=Kp) ρm).2.trans ρT);replace JU:=((aj.c2 K7).trans ρQ);replace J0:=((aj.c15 K7).trans ρS);have NC:=ae LP;have Lo:=λd os=>((am Δ Θ (Rh.grow d os) x (z:=Kp) ρm).2.trans ρV);have J8:=λd os=>((aj.c2 (K7.below (ZW _ d os))).trans ρQ);have Kq:=λd os=>((aj.c15 (K7.below (ZW _ d os))).trans ρS);have Lp:=λd os=>((am Γ Θ (NO.grow d os) p (z:=Kp) ρm).2.trans ρT);refine Ws 18 (nY ?_)
    repeat (first
     | (refine aj.qsh K7 (.tmp 101) ρs ρs ρs ?_;(try simp only[Act.put,List.setIfInBounds_toArray,List.set_cons_succ,List.set_cons_zero]))
     | (refine aj.qls K7 (.tmp 106) ρs ρs ρs ?_;(try simp only[Act.put,List.setIfInBounds_toArray,List.set_cons_succ,List.set_cons_zero]))
     | (go_big_quiet_step ((first
      | (go_at_call 157;(with_reducible exact bZ (wP (s5.e x).sh Uu _ _ _ lw tt _ kl.1 kl.2.1 kl.2.2 rlw rtt ocs Qz.out)))))))
    refine bB (θ8 LP Rh K7 NO T03 XV G3 JI) ?_;clear Rr;rintro v4 ⟨N5,BY'4,K8,Ww,T04,WF,G4,JJ⟩ Rr;replace Kr:=((am Δ Θ BY'4 x (z:=Kp) ρm).2.trans ρV);replace Kw:=((am Γ Θ Ww p (z:=Kp) ρm).2.trans ρT);replace JU:=((aj.c2 K8).trans ρQ);replace J0:=((aj.c15 K8).trans ρS);clear NC Lo J8 Kq Lp LP Rh K7 NO T03 XV G3;have XB:=K8;have XG:=G4;refine aj.ssh K8 Uu (.tmp 115) (.tmp 113) ρs ρs ρs ρs ?_;intro v5 KP kx zx;have ML:=N5.ko kx ρY;have Uw:=BY'4.ko kx ρY;have KM'5:=Ww.ko kx ρY;have T05:=T04.ko kx (λy hy f=>nfp y hy f);have Zj:=WF.ko kx σE;have G5:=G4.ko kx σi;have JP:KO (λy=>y=b5) wr v5:=JJ.trans kx σh;replace Rr:=ML.r;replace Kr:=((am Δ Θ Uw x (z:=Kp) ρm).2.trans ρV);replace Kw:=((am Γ Θ KM'5 p (z:=Kp) ρm).2.trans ρT);replace JU:=((aj.c2 KP).trans ρQ);replace J0:=((aj.c15 KP).trans ρS);clear kx zx XB XG K8;simp only[Act.put];go_wp2_with fail;refine bK (θ8 JP ML Uw KP KM'5 T05 Zj G5) ?_;clear Rr;rintro v6 ⟨JT,Oj,Wr,LH,Wx,T06,Q'6,G6⟩ Rr;replace Kr:=((am Δ Θ Wr x (z:=Kp) ρm).2.trans ρV);replace Kw:=((am Γ Θ Wx p (z:=Kp) ρm).2.trans ρT);replace JU:=((aj.c2 LH).trans ρQ);replace J0:=((aj.c15 LH).trans ρS);have NC:=ae Oj;have Lo:=λd os=>((am Δ Θ (Wr.grow d os) x (z:=Kp) ρm).2.trans ρV);have J8:=λd os=>((aj.c2 (LH.below (ZW _ d os))).trans ρQ);have Kq:=λd os=>((aj.c15 (LH.below (ZW _ d os))).trans ρS);have Lp:=λd os=>((am Γ Θ (Wx.grow d os) p (z:=Kp) ρm).2.trans ρT);refine Ws 18 (nY ?_)
    repeat (first
     | (refine aj.qcp LH (.tmp 119) ρs ρs ρs ?_;(try simp only[Act.put,List.setIfInBounds_toArray,List.set_cons_succ,List.set_cons_zero]))
     | (refine aj.qul LH (.tmp 124) ρs ρs ρs ?_;(try simp only[Act.put,List.setIfInBounds_toArray,List.set_cons_succ,List.set_cons_zero]))
     | (go_big_quiet_step ((first
      | (go_at_call 158;(with_reducible exact bZ (wW (s5.e x).cp TX _ _ _ now tt _ ku.1 ku.2.1 ku.2.2 okn rtt occ hcp.out)))))))
    refine bB (θ8 Oj Wr LH Wx T06 Q'6 G6 JT) ?_;clear Rr;rintro v7 ⟨Si,BY'7,Om,KM'7,T07,Q'7,G7,J7⟩ Rr;replace Kr:=((am Δ Θ BY'7 x (z:=Kp) ρm).2.trans ρV);replace Kw:=((am Γ Θ KM'7 p (z:=Kp) ρm).2.trans ρT);replace JU:=((aj.c2 Om).trans ρQ);replace J0:=((aj.c15 Om).trans ρS);clear NC Lo J8 Kq Lp Oj Wr LH Wx T06 Q'6 G6;have XB:=Om;have XG:=G7;refine aj.scp Om TX (.tmp 133) (.tmp 131) ρs ρs ρs ρs ?_;intro v8 Oo kx zx;have QO:=Si.ko kx ρY;have BY'8:=BY'7.ko kx ρY;have KM'8:=KM'7.ko kx ρY;have T08:=T07.ko kx (λy hy f=>nfp y hy f);have Q'8:=Q'7.ko kx σE;have G8:=G7.ko kx σi;have Ka:KO (λy=>y=b5) wr v8:=J7.trans kx σh;replace Rr:=QO.r;replace Kr:=((am Δ Θ BY'8 x (z:=Kp) ρm).2.trans ρV);replace Kw:=((am Γ Θ KM'8 p (z:=Kp) ρm).2.trans ρT);replace JU:=((aj.c2 Oo).trans ρQ);replace J0:=((aj.c15 Oo).trans ρS);have H8:=H0.entTo (i:=x) (x:={s5.e x with sh:=Uu,cp:=TX}) Nb.out KD.out Nw.out Ka (λk e=>.inl (by rw[e];exact Rb)) ⟨Oo,Rb,Q'8,⟨Od.out.1,Od.out.2.1,Od.out.2.2.1,TF.1,TF.2,TD.1,TD.2,Od.out.2.2.2.2.2.2.2⟩⟩;have k0e:=k0m.trans Ka (by intro z hz e;show TG.mine _;(try dsimp only at e);rw[<- YK z hz,e,Rb];simp[TG.mine]);clear kx zx XB XG;go_wp2;go_roundw;case rel=>exact⟨a1++[x],r,by rw[ZL,hq.out];go_num,by rw[JK.out];simp,by rw[Ly.out,RM.out];exact H8.below ρE,af.below G8 ρE,k0e.step0 ρE⟩
    case measure=>exact ξc
theorem aj.fr {w:ϖ} {b:Nat} {qv:ϗ} {x:EN} (h:aj w b qv x):∀i,w.frozen? ⟨b,i,none⟩=false:=ah.frozen h
theorem aj.set15 {w:ϖ} {b:Nat} {qv:ϗ} {x:EN} (h:aj w b qv x)(t:Int):aj (w.setCell ⟨b,15,none⟩ t) b qv {x with tot:=t}:=by have:=ah.set_same (w:=w) (B:=b) (cs:=oy x qv) (cs':=oy {x with tot:=t} qv) (t:=244) (i:=15) (v:=t) h ρh;exact this
theorem tX (n:Int)(s:SS)(i:Int):(s.take1 n i).L=s.L/\(s.take1 n i).kd=s.kd/\(s.take1 n i).A=s.A/\(s.take1 n i).lv=s.lv/\(∀j,((s.take1 n i).e j).c=(s.e j).c/\((s.take1 n i).e j).q=(s.e j).q/\((s.take1 n i).e j).du=(s.e j).du):=by refine⟨rfl,rfl,rfl,rfl,λj=>?_⟩;unfold SS.take1 SS.setE ax;simp only[];split<;>rename_i e<;>first|(rw[e];exact⟨rfl,rfl,rfl⟩)|exact⟨rfl,rfl,rfl⟩
theorem gX (n:Int):∀(xs:List Int)(s:SS),(xs.foldl (SS.take1 n) s).L=s.L/\(xs.foldl (SS.take1 n) s).kd=s.kd/\(xs.foldl (SS.take1 n) s).A=s.A/\(xs.foldl (SS.take1 n) s).lv=s.lv/\(∀j,((xs.foldl (SS.take1 n) s).e j).c=(s.e j).c/\((xs.foldl (SS.take1 n) s).e j).q=(s.e j).q/\((xs.foldl (SS.take1 n) s).e j).du=(s.e j).du)
 | [],s=>⟨rfl,rfl,rfl,rfl,λ_=>⟨rfl,rfl,rfl⟩⟩
 | x::r,s=>by obtain⟨h1,h2,h3,h4,h5⟩:=gX n r (s.take1 n x);obtain⟨g1,g2,g3,g4,g5⟩:=tX n s x;exact⟨h1.trans g1,h2.trans g2,h3.trans g3,h4.trans g4,λj=>⟨(h5 j).1.trans (g5 j).1,(h5 j).2.1.trans (g5 j).2.1,(h5 j).2.2.trans (g5 j).2.2⟩⟩
theorem rJ {n:Int} {s:SS} {i j:Int} (h:j≠i):(s.take1 n i).e j=s.e j:=by unfold SS.take1 SS.setE ax;exact ZI h
theorem iJ {n:Int}:∀{xs:List Int} {s:SS} {j:Int},j ∉ xs->(xs.foldl (SS.take1 n) s).e j=s.e j
 | [],_,_,_=>rfl
 | x::r,s,j,h=>by simp at h;show (r.foldl (SS.take1 n) (s.take1 n x)).e j=_;rw[iJ h.2,rJ h.1]
theorem Wf.due {s:SS} (h:s.Wf) {i len:Int} {b:Bool} {c:CD} (hc:fc s.L i=some c)(hl:c.lf=true):(s.due i len b).Wf/\(s.due i len b).L=s.L/\(s.due i len b).A=s.A/\(∀j,((s.due i len b).e j).c=(s.e j).c/\((s.due i len b).e j).q=(s.e j).q):=by
 have ee:∀(l:LF) j,((s.duesTo i l).e j).c=(s.e j).c/\((s.duesTo i l).e j).q=(s.e j).q:=λl j=>ηJ
 unfold SS.due;split
 ·simp only[];have W2:=λ(l:LF)=>Wf.duesTo (l:=l) h hc hl;split
  ·refine⟨Wf.of_same (W2 _) rfl (W2 _).ec (λ_ _ h=>h) (λj hj=>?_),rfl,rfl,ee _⟩;have Qd:aO (s.duesTo i _).lv i none j≠none:=hj;unfold aO at Qd;split at Qd
   ·exact az rfl Qd
   ·exact Qd
  ·exact⟨W2 _,rfl,rfl,ee _⟩
 ·exact⟨h,rfl,rfl,λ_=>⟨rfl,rfl⟩⟩
theorem Wf.sleeps:∀(ys:List Int) {s:SS},s.Wf->(ys.foldl SS.sleep1 s).Wf/\(ys.foldl SS.sleep1 s).L=s.L
 | [],_,h=>⟨h,rfl⟩
 | y::r,s,h=>by obtain⟨h1,h2⟩:=Wf.sleeps r (Wf.sleep1 h y);exact⟨h1,h2.trans (fJ s y).1⟩
theorem Wf.sleep {s:SS} (h:s.Wf)(i:Int)(up:List Int):(s.sleep i up).Wf/\(s.sleep i up).L=s.L:=by
 unfold SS.sleep;split
 ·exact Wf.sleeps _ (Wf.of_same h rfl h.ec (λ_ _ h=>h) (λ_ h=>h))
 ·exact⟨h,rfl⟩
theorem pi {s:SS} {now i:Int} {b:Bool} {up:List Int} {p:PK} {r:List PK} (hq:(s.e i).q=p::r):s.take now i b up=(if (((up.foldl (SS.take1 p.len) (({s with clk:=now}:SS).setE i {s.e i with q:=r})).due i p.len b).e i).q=[] then ((up.foldl (SS.take1 p.len) (({s with clk:=now}:SS).setE i {s.e i with q:=r})).due i p.len b).sleep i up else (up.foldl (SS.take1 p.len) (({s with clk:=now}:SS).setE i {s.e i with q:=r})).due i p.len b).settle up:=by unfold SS.take;simp only[hq,av,List.tail_cons]
theorem wK {s:SS} {i:Int} {up:List Int} (h:eV (s.e i).c=false):s.sleep i up=s:=by unfold SS.sleep;rw[ZI (by simp[h])]
theorem wH {c:CH} {p:Int} (oc:c.ok)(ot:aq c.t):(c.took p).ok/\(0<=(c.took p).t/\(c.took p).t<=Ma):=by
 unfold CH.took;split
 ·exact⟨oc,RN.time_rng oc p⟩
 ·exact⟨oc,ot⟩
theorem xA {c:CH} {p:Int} (oc:c.ok)(ot:aq c.t):(c.fit p).ok/\(0<=(c.fit p).t/\(c.fit p).t<=Ma):=by
 unfold CH.fit;split
 ·have:=RN.reach_rng oc (p*65536);exact⟨oc,by simp only[];omega⟩
 ·exact⟨oc,ot⟩
theorem aj.popq {w:ϖ} {b:Nat} {qv:ϗ} {x:EN} {r:List PK} (h:aj w b qv x):aj w b qv {x with q:=r}:=h
theorem Ds (o:aV)(a:Ad)(s:SS)(now:Int)(w:ϖ)(H:ar o w a s)(W:s.Wf)(Ms:¬now<s.clk/\¬4611686018427387904<now)(htot:∀i c,fc s.L i=some c->(s.e i).tot<=1099511627776)
  (hch0:∀i x,SS.Choose {s with clk:=now} now (some (i,x))->∃c xs p r,fc s.L i=some c/\c.lf=true/\(s.e i).q=p::r/\dy s.L i xs/\xs.length<=1000/\xs.Nodup/\(eV c=true->cf s.L i xs/\xs≠[]/\s.A.is i=true/\∀y ∈ 0::xs.tail,s.A.K y≠[])):Calls Ψ 129 #[a.S,now] w λe w'=>(∃i x p r c xs,SS.Choose {s with clk:=now} now (some (i,x))/\fc s.L i=some c/\(s.e i).q=p::r/\dy s.L i xs/\e=ϰ (χ #[φ #[ι ε i,p.id,ι ε p.len,ι ω p.h0,ι ω p.h1,ι ω p.h2,ι ω p.h3,β x],fK])/\∃o',ar o' w' a (s.take now i x xs)/\(∀y,y<w.heap.size->o' y=o y)/\KO (λx=>(o x).mine) w w')\/
   (SS.Choose {s with clk:=now} now none/\e=ϰ (χ #[φ #[Kz,Ky,Kz,eE,eE,eE,eE,dK],dK])/\∃o',ar o' w' a {s with clk:=now}/\(∀y,y<w.heap.size->o' y=o y)/\KO (λx=>(o x).mine) w w'):=by
 refine δR ?_;intro H0 S' NM YL s0 Lx W0;have SV:s0.L=s.L/\s0.e=s.e/\s0.A=s.A:=by rw[<- Lx];exact⟨rfl,rfl,rfl⟩
 have Re:=S'.r;go_in;go_upto_region 1 with (fail);refine Jw (θ2 (Ks (λ_=>False) w) S') (λv=>ah v w #[Kz,Ky,Kz,eE,eE,eE,eE,dK] 253) ρB ?_;rintro v1 R1 ⟨I',KC⟩;replace Re:=KC.r;replace rR:=R1.r;have H1:=H0.below I'.toBelow;have z1:=R1.size;go_wp2_with (go_at_call 126;refine(xz (o.more w .no) a s now v1 H1 Ms.1 Ms.2).mono ?_;rintro e v2 ⟨rfl,H2,kx⟩;rw[Lx] at H2;have SJ:¬w=a.S:=(λe=>by have:=S'.size;omega);have R2:=R1.ko kx SJ;have z2:=kx.size;replace Lx:=ag Lx);refine(xw (o.more w .no) a s0 now v2 H2 W0).mono ?_;rintro e v3 ⟨i,Oq,ok,rfl,Kh,ky⟩;obtain⟨H3,R3⟩:=Mw ky (θ2 H2 R2);have z3:=ky.size;have JI:KO (λx=>(o x).mine) w v3:=(((I'.mono (λ_ _ f=>f.elim):KO (λx=>x=a.S) w v1).trans kx σh).trans (KO.of_below (F:=λ_=>False) ky) (λ_ _ f=>f.elim)).mono τ9;clear Re KC R1 H1 H2 R2 kx ky I' S' H0;have rR:=R3.r;replace Kh:=ag Kh;rcases ok with _|_
 ·have Pg:SS.Choose s0 now none:=by rcases Kh.out with h|h;(· cases h.1);(· exact h.2.2.2)
  replace Pg:=ag Pg;go_wp2_with fail;refine eD v3 (λx=>x=w.heap.size) (λv=>ah v w #[Kz,Ky,Kz,eE,eE,eE,eE,dK] 253) ρB (λ_ kx=>kx) ?_;rintro v4 R4 kx;replace rR:=R4.r;refine ZO (v:=χ #[φ #[Kz,Ky,Kz,eE,eE,eE,eE,dK],dK]) τt rfl ?_;exact .inr ⟨Lx.out ▸ Pg.out,rfl,_,(H3.ko kx (λx e=>by (try dsimp only at e);rw[e];exact YL _ (ZR _))).same Lx.out.symm,NM,JI.trans kx σw⟩
 have Lw:SS.Choose s0 now (some (i,Oq)):=by rcases Kh.out with h|h;(· exact h.2);(· cases h.1)
 obtain⟨c,xs,p,r,hc,Lb,hq,hu,RO,NJ,Qz⟩:=hch0 i Oq (Lx.out ▸ Lw);rw[<- SV.1] at hc hu Qz;rw[<- SV.2.1] at hq;rw[<- SV.2.2] at Qz;replace Lw:=ag Lw;obtain⟨LP,LG,Rh,E'3,-,-,-,-,oS,oT,oM,Ty,TB⟩:=id H3;obtain⟨b,qv,hb,Kc,E0,-⟩:=E'3.out hc;obtain⟨X0,ob,Q0,ok0⟩:=E0;have K7:aj v3 b qv (s0.e i):=X0;have RG:(s0.e i).c.lf=true:=by rw[Kc];exact Lb
 unfold dT at Q0;rw[ZP RG,hq] at Q0;obtain⟨Q,Pw,rfl,Q3,Ot⟩:=Q0;have QX:∀y ∈ xs,∃c,fc s0.L y=some c:=eQ hu;have Lc:1<=p.len/\p.len<=16384:=by obtain⟨R,S,f,ps,k0,k1,k2,k3,k4,k5,B',G,LS,JS,_⟩:=id Q3;exact JS p ρp
 have lB:=((am Δ Θ Rh i (z:=Kp) ρm).2.trans (by rw[hb];try rfl));have lX:=aj.c0 K7;have Re:=LP.r;change Hid _ at hc Kc hb hq Ot hu QX Qz SV ok0;clear E'3 LG Rh;clear rR;go_wp2_with fail;refine(Ii Q _ _ p r Pw v3 Q3).mono ?_;rintro e v4 ⟨rfl,QA4,kx⟩;have nRq:¬Pw w:=λf=>by have:=Ot.out _ f;rw[YL _ (ZR _)] at this;cases this
 have R4:=R3.ko kx nRq;have K8:=K7.ko kx τc;have H4:=H3.entTo (x:={s0.e i with q:=r}) hc.out hb.out Kc.out kx (λy f=>.inr (Ot.out y f)) ⟨aj.popq K8,ob,by unfold dT;rw[ZP RG];exact⟨Q,Pw,rfl,QA4,Ot.out⟩,ok0.out⟩;have JJ:=JI.trans kx σG;have z4:=kx.size;obtain⟨s1,KI⟩:=Nq (s0.setE i {s0.e i with q:=r});rw[KI] at H4;have e1:s1.L=s0.L/\s1.A=s0.A/\s1.lv=s0.lv/\s1.kd=s0.kd/\(∀j,(s1.e j).c=(s0.e j).c/\(s1.e j).tot=(s0.e j).tot)/\(s1.e i).q=r:=by
  rw[<- KI];refine⟨rfl,rfl,rfl,rfl,λj=>?_,?_⟩
  ·unfold SS.setE ax;simp only[];split<;>rename_i e<;>first|(rw[e];exact⟨rfl,rfl⟩)|exact⟨rfl,rfl⟩
  ·unfold SS.setE ax;simp
 have W1:s1.Wf:=Wf.of_same W0 e1.1 (λj c h=>by rw[(e1.2.2.2.2.1 j).1];exact W0.ec j c h) (λp j h=>by rw[e1.2.2.2.1] at h;exact h) (λj h=>by rw[e1.2.2.1] at h;exact h);obtain⟨N5,Lv,-⟩:=id H4;clear Re lB lX LP K7 K8 H3 R3 JI kx Q3 QA4;change Hid _ at e1 KI;go_upto_region 8 with (fail);refine Jw (θ4 JJ H4 R4 N5) (λv=>ah v (v4) (gM p.id p.len p.h0 p.h1 p.h2 p.h3) 50) ρB ?_;rintro v5 UD ⟨JP,H5,R5,ML⟩;replace rR:=R5.r;replace Re:=ML.r;replace RX:=UD.r;have z5:=JP.size;have OE:=H5.2.1;go_wp2_with fail;refine(HJ a.T a.M s1.L i xs v5 OE (by rw[e1.out.1];exact hu.out) RO).mono ?_;rintro e v6 ⟨u,rfl,G6,kx⟩;obtain⟨H6,R6,UE⟩:=Mw kx (θ3 H5 R5 UD);have z6:=kx.size;have JT:=JP.step0 kx;have zp:=UD.size;obtain⟨oa,oc,rfl⟩:=G6.slice;clear H5 R5 UD ML OE kx JP Re rR RX JJ H4 R4 Lv N5;go_wp2_with fail;go_loopw [55] (λk wr=>∃(a1 b1:List Int),k=ι ε (a1.length:Nat)/\xs=a1++b1/\ar (o.more w .no) wr a (a1.foldl (SS.take1 p.len) s1)/\HI wr v5 (ζ oa xs.length oc) xs/\ah wr w #[Kz,Ky,Kz,eE,eE,eE,eE,dK] 253/\ah wr v4 (gM p.id p.len p.h0 p.h1 p.h2 p.h3) 50/\KO (λx=>(o x).mine) w wr) (λk _=>xs.length - (intOf k).toNat);case atStart=>exact⟨[],xs,rfl,rfl,H6,G6,R6,UE,JT⟩
 case round=>
  obtain⟨a1,b1,rfl,JK,H0,G0,R0,Zg,JG⟩:=hrel;clear H6 G6 R6 UE JT;have JO:a1.length+b1.length=xs.length:=by rw[JK,ZL]
  obtain⟨q,KV⟩:=Nq a1.length;rw[KV] at JO ⊢;have zw:=JG.size;obtain⟨j1,j2,j3,j4,j5⟩:=gX p.len a1 s1;cases b1 with
  | nil=>
   have JM:¬q<xs.length:=ρn;have hd:=ZF JM;have QA:a1=xs:=ρL;rw[QA] at H0 j1 j2 j3 j4 j5;change Hid _ at JO KV;clear JK QA;have W2:(xs.foldl (SS.take1 p.len) s1).Wf:=Wf.of_same W1 j1 (λj c h=>by rw[(j5 j).1];exact W1.ec j c h) (λp j h=>by rw[j2] at h;exact h) (λj h=>by rw[j4] at h;exact h);have hc2:fc (xs.foldl (SS.take1 p.len) s1).L i=some c:=by rw[j1,e1.out.1];exact hc.out
   have LU:((xs.foldl (SS.take1 p.len) s1).e i).q=r:=(j5 i).2.1.trans e1.out.2.2.2.2.2;have MD:(xs.foldl (SS.take1 p.len) s1).L=s0.L:=j1.trans e1.out.1;have Sn:(xs.foldl (SS.take1 p.len) s1).A=s0.A:=j3.trans e1.out.2.1;have PA:((xs.foldl (SS.take1 p.len) s1).e i).c=c:=W2.ec i c hc2;have hs2e:xs.foldl (SS.take1 p.len) s1=xs.foldl (SS.take1 p.len) (({s with clk:=now}:SS).setE i {s.e i with q:=r}):=by rw[<- KI.out,<- Lx.out]
   have SH:=pi (now:=now) (b:=Oq) (up:=xs) (show (s.e i).q=p::r by rw[<- SV.out.2.1];exact hq.out);rw[<- hs2e] at SH;obtain⟨s2,Ki⟩:=Nq (xs.foldl (SS.take1 p.len) s1);rw[Ki] at H0 W2 hc2 LU MD Sn PA SH;clear j1 j2 j3 j4 j5 hs2e;obtain⟨W3,hL3,UV,he3⟩:=Wf.due (len:=p.len) (b:=Oq) W2 hc2 Lb;have hfin0:=SH;have on4:(o.more w .no) v4.heap.size=.no:=YL _ ρa;have on1:(o.more w .no) w.heap.size=.no:=YL _ (ZR _);change Hid _ at SH LU MD Sn PA Ki hL3 UV he3;clear hfin0 e1 KI G0;have RX:=Zg.r;go_wp2_with fail;refine(Dq (o.more w .no) a s2 i p.len Oq c b wr H0 W2 hc2 Lb hb.out ⟨by omega,by omega⟩).mono ?_;rintro e v20 ⟨rfl,o20,H20,oe20,kx⟩;have R20:=R0.ko kx (λf=>f on1);have WD:=Zg.ko kx (λf=>f on4);have k020:=JG.trans kx (λx hx f=>by (try dsimp only at f);rw[NM x hx] at f;exact f);have z20:=kx.size;have Vt:=(oe20 _ R0.size).trans on1;have XC:=(oe20 _ Zg.size).trans on4;have Vx:∀x,x<w.heap.size->o20 x=o x:=λx hx=>(oe20 x ρa).trans (NM x hx);clear kx RX R0 Zg H0 JG;have hc3:fc (s2.due i p.len Oq).L i=some c:=by rw[hL3.out];exact hc2
   obtain⟨S'20,-,-,E'20,-⟩:=id H20;obtain⟨b2,qv2,JR,hcc3,⟨X0,ob2,Q0,-⟩,-⟩:=E'20.out hc3;have eb:=iR (hb.out.symm.trans JR);subst eb;have X'20:aj v20 b qv2 ((s2.due i p.len Oq).e i):=X0;unfold dT at Q0;rw[ZP (by rw[hcc3];exact Lb),(he3.out i).2,LU.out] at Q0;obtain⟨Q2,fp2,rfl,Q20,-⟩:=Q0;have lX:=aj.c0 X'20;have zX:=X'20.size;obtain⟨n,hn⟩:=Nq r.length;clear E'20 X0;go_wp2_with fail;refine(tF Q2 _ _ r fp2 _ Q20).mono ?_;rintro e u ⟨rfl,rfl⟩;rw[hn];by_cases h0:n=0
   rotate_left
   ·have JL:((n:Int)==0)=false:=by rw[ZN];omega
    have MP:s.take now i Oq xs=(s2.due i p.len Oq).settle xs:=by rw[SH.out,ZI (λe=>h0 (by rw[<- hn,<- LU.out,<- (he3.out i).2,e];rfl))]
    change Hid _ at MP hn;go_wp2_with fail;refine(jp o20 a (s2.due i p.len Oq) i xs _ H20 W3 (by rw[hL3.out,MD.out];exact hu.out) RO).mono ?_;rintro e v21 ⟨rfl,o21,XU,TC,kx⟩;have R21:=R20.ko kx (λf=>f Vt);have WE:=WD.ko kx (λf=>f XC);have PJ:=k020.trans kx (λx hx f=>by (try dsimp only at f);rw[Vx x hx] at f;exact f);have z21:=kx.size;have Vu:=(TC _ R20.size).trans Vt;clear kx;have rR:=R21.r;have RX:=WE.r;have nRP:¬w.heap.size=v4:=ρa;go_wp2_with fail;refine eD v21 (λx=>x=w.heap.size) (λv=>ah v w #[ι ε i,p.id,ι ε p.len,ι ω p.h0,ι ω p.h1,ι ω p.h2,ι ω p.h3,β Oq] 253) ρB (λ_ kx=>kx) ?_;rintro QM R22 kx;replace rR:=R22.r;refine ZO (v:=χ #[φ #[ι ε i,p.id,ι ε p.len,ι ω p.h0,ι ω p.h1,ι ω p.h2,ι ω p.h3,β Oq],fK]) τt rfl ?_;exact .inl ⟨i,Oq,p,r,c,xs,Lx.out ▸ Lw.out,by rw[<- SV.out.1];exact hc.out,by rw[<- SV.out.2.1];exact hq.out,by rw[<- SV.out.1];exact hu.out,rfl,o21,(XU.ko kx (λx e=>by (try dsimp only at e);rw[e];exact Vu)).same MP.out.symm,λx hx=>(TC x ρa).trans (Vx x hx),PJ.trans kx σw⟩
   subst h0;have Ns:r=[]:=List.length_eq_zero_iff.1 hn;have MP:s.take now i Oq xs=((s2.due i p.len Oq).sleep i xs).settle xs:=by rw[SH.out,ZP (by rw[(he3.out i).2,LU.out];exact Ns)]
   obtain⟨W4,hL4⟩:=Wf.sleep W3 i xs;change Hid _ at MP hn Ns hL4;rcases OV:eV c with _|_
   ·have hns:(s2.due i p.len Oq).sleep i xs=s2.due i p.len Oq:=wK (by rw[(he3.out i).1,PA.out];exact OV);change Hid _ at hns OV;go_wp2_with fail;refine(sQ o20 a _ i _ H20 (λd hd=>by rw[hc3] at hd;cases hd;exact OV.out)).mono ?_;rintro e v21 ⟨rfl,kx⟩;have XU:=(H20.below kx).same hns.out.symm;obtain⟨R21,WE,PJ⟩:=Mw kx (θ3 R20 WD k020);have z21:=kx.size;have Vu:=Vt;have nP21:=XC;have ow21:=Vx;clear kx lX;go_wp2_with fail;refine(jp o20 a ((s2.due i p.len Oq).sleep i xs) i xs _ XU W4 (by rw[hL4.out,hL3.out,MD.out];exact hu.out) RO).mono ?_;exact ξg
   ·obtain⟨hp,LA,hi,hK⟩:=Qz.out OV;change Hid _ at OV hi hK;go_wp2_with fail;refine(AU o20 a (s2.due i p.len Oq) i xs c _ H20 W3 hc3 OV.out Lb (by rw[UV.out,Sn.out];exact hi.out) (by rw[hL3.out,MD.out];exact hp) LA RO NJ (by rw[UV.out,Sn.out];exact hK.out)).mono ?_;rintro e v21 ⟨rfl,o21,XU,TC,kx⟩;have R21:=R20.ko kx (λf=>f Vt);have WE:=WD.ko kx (λf=>f XC);have PJ:=k020.trans kx (λx hx f=>by (try dsimp only at f);rw[Vx x hx] at f;exact f);have z21:=kx.size;have Vu:=(TC _ R20.size).trans Vt;have nP21:=(TC _ WD.size).trans XC;have ow21:∀x,x<w.heap.size->o21 x=o x:=λx hx=>(TC x ρa).trans (Vx x hx);clear kx lX;go_wp2_with fail;refine(jp o21 a ((s2.due i p.len Oq).sleep i xs) i xs _ XU W4 (by rw[hL4.out,hL3.out,MD.out];exact hu.out) RO).mono ?_;exact ξg
  | cons x r2=>
   have JM:q<xs.length:=ρn;have hd:=ZT JM;have MS:xs[q]?=some x:=by rw[JK,<- KV];simp
   have JX:xs≠[]:=ρP;obtain⟨d,U'⟩:=QX.out x ρP;have Ly:(a1++[x]).foldl (SS.take1 p.len) s1=(a1.foldl (SS.take1 p.len) s1).take1 p.len x:=by rw[List.foldl_append];rfl
   have Nb:fc (a1.foldl (SS.take1 p.len) s1).L x=some d:=by rw[j1,e1.out.1];exact U'
   have hxn:x ∉ a1:=by have:=NJ;rw[JK] at this;exact λe=>(List.nodup_append.1 this).2.2 x e x ρp rfl
   have YB:((a1.foldl (SS.take1 p.len) s1).e x).tot<=1099511627776:=by rw[iJ hxn,(e1.out.2.2.2.2.1 x).2,SV.out.2.1];exact htot x d (by rw[<- SV.out.1];exact U')
   obtain⟨s5,Xr⟩:=Nq (a1.foldl (SS.take1 p.len) s1);rw[Xr] at H0 Ly Nb YB;clear j1 j2 j3 j4 j5;obtain⟨Us,NS,g0,e0,Kv,e1',_⟩:=af.at G0 (λ_=>rfl);have e1':=e1' JX;obtain⟨rfl,-,rfl⟩:=ZV e0;subst e1';obtain⟨cx,gx,bx⟩:=HI.cell G0 q x MS;obtain⟨Sh,Zs,MV,XS,-,-,Nt,YU,oS5,-⟩:=id H0;obtain⟨b5,qv5,KD,Nw,E5,-⟩:=XS.out Nb;obtain⟨X5,Rb,Q0,Od⟩:=E5;have Rx:aj wr b5 qv5 (s5.e x):=X5;obtain⟨tt,Xv⟩:=Nq ((s5.e x).tot);have rtt:0<=tt/\tt<=1099511627776:=by rw[<- Xv];exact⟨Od.2.2.2.2.2.2.2.1,YB⟩
   obtain⟨t1,Vl⟩:=Nq (tt+p.len);have rt1:0<=t1/\t1<=2199023255552:=ρa;have rt2:0<=t1/\t1<=Ma:=ρa;have RM:IntKind.u64.wrap p.len=p.len:=ZZ _ ⟨by omega,by omega⟩;have Wg:IntKind.u64.wrap (tt+p.len)=t1:=by rw[Vl];exact ZZ _ ⟨by omega,by omega⟩
   obtain⟨Uu,Xs⟩:=Nq ((s5.e x).sh.took t1);obtain⟨TX,Xc⟩:=Nq ((s5.e x).cp.fit t1);have TF:Uu.ok/\(0<=Uu.t/\Uu.t<=Ma):=by rw[<- Xs];exact wH Od.2.2.2.1 Od.2.2.2.2.1
   have TD:TX.ok/\(0<=TX.t/\TX.t<=Ma):=by rw[<- Xc];exact xA Od.2.2.2.2.2.1 Od.2.2.2.2.2.2.1
   have ocs:(s5.e x).sh.r.ok:=Od.2.2.2.1;have occ:(s5.e x).cp.r.ok:=Od.2.2.2.2.2.1;have ht2:s5.take1 p.len x=s5.setE x {s5.e x with tot:=t1,sh:=Uu,cp:=TX}:=by unfold SS.take1;rw[Xv,Vl,Xs,Xc]
   have nR5:¬w=b5:=dX R0 X5 ρf;have nP5:¬v4=b5:=dX Zg X5 ρf;have nby:¬a.BY=b5:=λe=>aC X5 MV e.symm;have k0m:=JG;clear JG;have JG:KO (λy=>y=b5) wr wr:=KO.refl _ _;change Hid _ at JK KV Kv JO Xr Ly KD Nb Nw Xv Vl Xs Xc ht2 Od;clear JX XS YU Zs U' YB hxn Nt;have Re:=Sh.r;have Kr:=((am Δ Θ MV x (z:=Kp) ρm).2.trans ρV);have rR:=R0.r;have RX:=Zg.r;have JU:=((aj.c15 Rx).trans σ0);have J0:=(aj.fr Rx);go_upto_region 12 with (fail);refine Zw (θ8 JG Sh MV Rx Q0 G0 R0 Zg) ?_;rintro LD ⟨KE,WG,Sc,SR,Ro,Sf,N4,Wz⟩;replace Re:=WG.r;replace Kr:=((am Δ Θ Sc x (z:=Kp) ρm).2.trans ρV);replace rR:=N4.r;replace RX:=Wz.r;replace JU:=((aj.c15 SR).trans σ0);replace J0:=(aj.fr SR);have NC:=ae WG;have Lo:=λd os=>((am Δ Θ (Sc.grow d os) x (z:=Kp) ρm).2.trans ρV);have J8:=λd os=>((aj.c15 (SR.below (ZW _ d os))).trans σ0);have Kq:=λd os=>(aj.fr (SR.below (ZW _ d os)));have qR:=ae N4;have RW:=ae Wz;refine Ws 10 (gC ?_);refine Zq (θ8 WG Sc SR Ro Sf N4 Wz KE) ?_;rintro Oe ⟨S'12,XN,WL,Q12,Qk,Rp,PB12,Kl⟩;replace Re:=S'12.r;replace Kr:=((am Δ Θ XN x (z:=Kp) ρm).2.trans ρV);replace rR:=Rp.r;replace RX:=PB12.r;replace JU:=((aj.c15 WL).trans σ0);replace J0:=(aj.fr WL);clear NC Lo J8 Kq qR RW WG Sc SR Ro Sf N4 Wz;have XB:=WL;have XG:=Qk;go_wp2_with fail;refine ii Oe (λy=>y=b5) (λv=>aj v b5 qv5 {s5.e x with tot:=t1}) (aj.set15 WL t1) (λ_ kx=>θ7 (Kl.trans kx σh) (S'12.ko kx ρt) (XN.ko kx ρt) (Q12.ko kx σE) (Qk.ko kx σi) (Rp.ko kx ρt) (PB12.ko kx ρt)) ?_;rintro PP X'13 ⟨Li,S'13,XO,Zk,YY,R13,PB13⟩;replace Re:=S'13.r;replace Kr:=((am Δ Θ XO x (z:=Kp) ρm).2.trans ρV);replace rR:=R13.r;replace RX:=PB13.r;replace JU:=(aj.c15 X'13);clear XB XG;refine Zw (θ8 Li S'13 XO Zk YY R13 PB13 X'13) ?_;rintro YP ⟨OY,WH,Sd,Q14,G14,R14,WA,UK⟩;replace Re:=WH.r;replace Kr:=((am Δ Θ Sd x (z:=Kp) ρm).2.trans ρV);replace rR:=R14.r;replace RX:=WA.r;replace JU:=(aj.c15 UK);have NC:=ae WH;have Lo:=λd os=>((am Δ Θ (Sd.grow d os) x (z:=Kp) ρm).2.trans ρV);have qR:=ae R14;have RW:=ae WA;have J8:=λd os=>(aj.c15 (UK.below (ZW _ d os)));refine Ws 12 (nY ?_)
   repeat (first
    | (refine aj.qsh UK (.tmp 78) ρs ρs ρs ?_;(try simp only[Act.put,List.setIfInBounds_toArray,List.set_cons_succ,List.set_cons_zero]))
    | (go_big_quiet_step ((first
     | (go_at_call 162;(with_reducible exact bZ (wM (s5.e x).sh Uu t1 _ rt2 ocs Xs.out)))))))
   refine Zq (θ8 WH Sd Q14 G14 R14 WA UK OY) ?_;rintro v15 ⟨S'15,XP,Q15,G15,R15,PB15,WM,RQ⟩;replace Re:=S'15.r;replace Kr:=((am Δ Θ XP x (z:=Kp) ρm).2.trans ρV);replace rR:=R15.r;replace RX:=PB15.r;replace JU:=(aj.c15 WM);clear NC Lo qR RW J8 WH Sd Q14 G14 R14 WA UK;have XB:=WM;have XG:=G15;refine aj.ssh WM Uu (.tmp 86) (.tmp 84) ρs ρs ρs ρs ?_;intro v16 X'16 kx zx;have S'16:=S'15.ko kx ρt;have XQ:=XP.ko kx ρt;have Q16:=Q15.ko kx σE;have G16:=G15.ko kx σi;have R16:=R15.ko kx ρt;have PB16:=PB15.ko kx ρt;have k016:KO (λy=>y=b5) wr v16:=RQ.trans kx σh;replace Re:=S'16.r;replace Kr:=((am Δ Θ XQ x (z:=Kp) ρm).2.trans ρV);replace rR:=R16.r;replace RX:=PB16.r;replace JU:=(aj.c15 X'16);clear kx zx XB XG WM;simp only[Act.put];go_wp2_with fail;refine Zw (θ8 k016 S'16 XQ Q16 G16 R16 PB16 X'16) ?_;rintro v17 ⟨k017,WI,Se,Q17,G17,R17,WB,UL⟩;replace Re:=WI.r;replace Kr:=((am Δ Θ Se x (z:=Kp) ρm).2.trans ρV);replace rR:=R17.r;replace RX:=WB.r;replace JU:=(aj.c15 UL);have NC:=ae WI;have Lo:=λd os=>((am Δ Θ (Se.grow d os) x (z:=Kp) ρm).2.trans ρV);have qR:=ae R17;have RW:=ae WB;have J8:=λd os=>(aj.c15 (UL.below (ZW _ d os)));refine Ws 12 (nY ?_)
   repeat (first
    | (refine aj.qcp UL (.tmp 90) ρs ρs ρs ?_;(try simp only[Act.put,List.setIfInBounds_toArray,List.set_cons_succ,List.set_cons_zero]))
    | (go_big_quiet_step ((first
     | (go_at_call 163;(with_reducible exact bZ (kA (s5.e x).cp TX t1 _ rt2 occ Xc.out)))))))
   refine Zq (θ8 WI Se Q17 G17 R17 WB UL k017) ?_;rintro v18 ⟨S'18,XR,Q18,G18,R18,PB18,Zx,k018⟩;replace Re:=S'18.r;replace Kr:=((am Δ Θ XR x (z:=Kp) ρm).2.trans ρV);replace rR:=R18.r;replace RX:=PB18.r;replace JU:=(aj.c15 Zx);clear NC Lo qR RW J8 WI Se Q17 G17 R17 WB UL;have XB:=Zx;have XG:=G18;refine aj.scp Zx TX (.tmp 98) (.tmp 96) ρs ρs ρs ρs ?_;intro v19 X'19 kx zx;have S'19:=S'18.ko kx ρt;have BY'19:=XR.ko kx ρt;have Q19:=Q18.ko kx σE;have G19:=G18.ko kx σi;have R19:=R18.ko kx ρt;have Zh:=PB18.ko kx ρt;have k019:KO (λy=>y=b5) wr v19:=k018.trans kx σh;replace Re:=S'19.r;replace Kr:=((am Δ Θ BY'19 x (z:=Kp) ρm).2.trans ρV);replace rR:=R19.r;replace RX:=Zh.r;replace JU:=(aj.c15 X'19);have H19:=H0.entTo (i:=x) (x:={s5.e x with tot:=t1,sh:=Uu,cp:=TX}) Nb.out KD.out Nw.out k019 (λk e=>.inl (by rw[e];exact Rb)) ⟨X'19,Rb,Q19,⟨Od.out.1,Od.out.2.1,Od.out.2.2.1,TF.1,TF.2,TD.1,TD.2,rt1⟩⟩;have k0e:=k0m.trans k019 (by intro z hz e;show TG.mine _;(try dsimp only at e);rw[<- NM z hz,e,Rb];simp[TG.mine]);clear kx zx XB XG;go_wp2;go_roundw;case rel=>exact⟨a1++[x],r2,by rw[ZL,KV.out];go_num,by rw[JK.out];simp,by rw[Ly.out,ht2.out];exact H19.below ρE,af.below G19 ρE,R19.below ρE R19.size,Zh.below ρE Zh.size,k0e.step0 ρE⟩
   case measure=>exact ξc
theorem bo.none {J:Int->Prop} {o:aV} {w:ϖ} {L:List CD} {e:Int->EN} {LB:List (Int × ϗ)} {i:Int} (h:bo J o w L e LB)(hc:fc L i=none):lk i LB=none:=by obtain⟨P,V,h3⟩:=h;have:=h3 i;rw[hc] at this;exact this
noncomputable def SS.put2 (s:SS) (now i:Int) (p:PK) (up:List Int):Int × SS:=
 match fc s.L i with
 | none=>(23,s)
 | some c=>
  if c.lf=false then (29,s) else
  if p.len<1\/s.Lm<p.len then (26,s) else
  if 1099511627776<s.acc+p.len then (28,s) else
  if c.by_ - aA (s.e i).q<p.len\/(s.e i).q.length=c.pk.toNat then (30,s) else
  if (s.e i).q=[] then (0,SS.wake {s.setE i {s.e i with q:=(s.e i).q++[p]} with acc:=s.acc+p.len} now i p.len up) else (0,{s.setE i {s.e i with q:=(s.e i).q++[p]} with acc:=s.acc+p.len})
theorem yn {s:SS} {now i:Int} {p:PK} {up:List Int} (h1:¬now<s.clk)(h2:¬4611686018427387904<now):s.put now i p up=SS.put2 {s with clk:=now} now i p up:=by unfold SS.put SS.put2;rw[ZI (by unfold SS.told;simp;omega)];rfl
theorem ym {s:SS} {now i:Int} {p:PK} {up:List Int} (h:fc s.L i=none):SS.put2 s now i p up=(23,s):=by unfold SS.put2;rw[h]
theorem yl {s:SS} {now i:Int} {p:PK} {up:List Int} {c:CD} (h:fc s.L i=some c)(hl:c.lf=false):SS.put2 s now i p up=(29,s):=by unfold SS.put2;rw[h];exact ZP hl
theorem uR {s:SS} {now i:Int} {p:PK} {up:List Int} {c:CD} (h:fc s.L i=some c)(hl:c.lf=true)(h1:p.len<1\/s.Lm<p.len):SS.put2 s now i p up=(26,s):=by unfold SS.put2;rw[h];simp only[hl,Bool.true_eq_false,if_false,ZP h1]
theorem wl {s:SS} {now i:Int} {p:PK} {up:List Int} {c:CD} (h:fc s.L i=some c)(hl:c.lf=true)(h0:¬p.len<1)(h1:¬s.Lm<p.len)(h2:1099511627776<s.acc+p.len):SS.put2 s now i p up=(28,s):=by unfold SS.put2;rw[h];simp only[hl,Bool.true_eq_false,if_false,ZI (not_or.2 ⟨h0,h1⟩),ZP h2]
theorem qF {s:SS} {now i:Int} {p:PK} {up:List Int} {c:CD} (h:fc s.L i=some c)(hl:c.lf=true)(h0:¬p.len<1)(h1:¬s.Lm<p.len)(h2:¬1099511627776<s.acc+p.len)(h3:c.by_ - aA (s.e i).q<p.len\/(s.e i).q.length=c.pk.toNat):SS.put2 s now i p up=(30,s):=by unfold SS.put2;rw[h];simp only[hl,Bool.true_eq_false,if_false,ZI (not_or.2 ⟨h0,h1⟩),ZI h2,ZP h3]
theorem DV {s:SS} {now i:Int} {p:PK} {up:List Int} {c:CD} (h:fc s.L i=some c)(hl:c.lf=true)(h0:¬p.len<1)(h1:¬s.Lm<p.len)(h2:¬1099511627776<s.acc+p.len)(h3:¬c.by_ - aA (s.e i).q<p.len)(h4:¬(s.e i).q.length=c.pk.toNat):SS.put2 s now i p up=if (s.e i).q=[] then (0,SS.wake {s.setE i {s.e i with q:=(s.e i).q++[p]} with acc:=s.acc+p.len} now i p.len up) else (0,{s.setE i {s.e i with q:=(s.e i).q++[p]} with acc:=s.acc+p.len}):=by unfold SS.put2;rw[h];simp only[hl,Bool.true_eq_false,if_false,ZI (not_or.2 ⟨h0,h1⟩),ZI h2,ZI (not_or.2 ⟨h3,h4⟩)]
theorem aY.len {w:ϖ} {B:Nat} {JW:Int} {c:Nat} {l:List PK} {fp:Nat->Prop} (H:aY w B JW c l fp):l.length<=c:=by obtain⟨R,S,f,ps,k0,k1,k2,k3,k4,k5,B',G,_⟩:=H;exact G.2.2.2.2.1
theorem Ft (o:aV)(a:Ad)(s:SS)(now i:Int)(p:PK)(xs:List Int)(w:ϖ)(H:ar o w a s)(W:s.Wf)(Ms:¬now<s.clk/\¬4611686018427387904<now)(hnow:0<=now/\now<=4611686018427387904)(Sp:s.Lm<=16384)(hacc:0<=s.acc/\s.acc<=1099511627776)(Vm:∀p j q,s.kd p j=some q->0<=q.1/\q.1<=Mc)
  (hs:∀c,fc s.L i=some c->c.lf=true->(s.e i).q=[]->eV c=true->cf s.L i xs/\xs≠[]/\xs.length<=1000/\s.A.is i=false):Calls Ψ 86 #[a.S,now,ι ε i,φ (gM p.id p.len p.h0 p.h1 p.h2 p.h3)] w λe w'=>∃n s',e=ϰ (ι ε n)/\s.put now i p xs=(n,s')/\∃o',ar o' w' a s'/\(∀y,y<w.heap.size->o' y=o y)/\KO (λx=>(o x).mine) w w':=by
 refine δR ?_;intro H0 S' NM YL s0 Lx W0;have e0:s0.L=s.L/\s0.e=s.e/\s0.A=s.A/\s0.acc=s.acc/\s0.Lm=s.Lm/\s0.kd=s.kd:=by rw[<- Lx];exact⟨rfl,rfl,rfl,rfl,rfl,rfl⟩
 have SE:=yn (s:=s) (i:=i) (p:=p) (up:=xs) Ms.1 Ms.2;rw[Lx] at SE;have Rr:=S'.r;go_in;go_upto_region 1 with (fail);refine jf (θ2 (Ks (λ_=>False) w) S') (λv=>ah v w (gM p.id p.len p.h0 p.h1 p.h2 p.h3) 50) ρB ?_;clear Rr;rintro v1 PB1 ⟨I',KC⟩ Rr;have Ss:=PB1.r;have H1:=H0.below I'.toBelow;have z1:=PB1.size;go_wp2_with fail;refine(xz (o.more w .no) a s now v1 H1 (by have:=Ms;omega) (by have:=Ms;omega)).mono ?_;rintro e v2 ⟨rfl,H2,kx⟩;rw[Lx] at H2;have SJ:¬w=a.S:=λe=>by have:=S'.size;omega
 have PB2:=PB1.ko kx SJ;have z2:=kx.size;have JE:KO (λx=>(o x).mine) w v2:=((I'.mono (λ_ _ f=>f.elim):KO (λx=>x=a.S) w v1).trans kx σh).mono τ9;replace Lx:=ag Lx;clear KC H1 kx I' S' H0 PB1;obtain⟨LJ,Mk,Pm,YV,-,-,-,-,oS,-⟩:=id H2;replace Ss:=θ2 LJ.r PB2.r;cases hc:fc s0.L i with
 | none=>have hlk0:=YV.none hc;have lB:=((am Δ Θ Pm i (z:=Kp) ρm).1.trans (by rw[hlk0];try rfl));have OU:=ym (now:=now) (p:=p) (up:=xs) hc;change Hid _ at OU SE;clear YV Mk;go_wp2;go_ret;exact⟨23,s0,rfl,by rw[SE.out];exact OU.out,(o.more w .no),H2.below ρE,NM,JE.step0 ρE⟩
 | some c=>
  obtain⟨b,qv,hb,Kc,E0,-⟩:=YV.out hc;obtain⟨X0,ob,Q0,ok⟩:=E0;have K6:aj v2 b qv (s0.e i):=X0;obtain⟨lf,Lb⟩:=Nq c.lf;have lB:=((am Δ Θ Pm i (z:=Kp) ρm).1.trans (by rw[hb];try rfl));have lX3:=(aj.c3 K6).trans (by rw[Kc,Lb]);have lX0:=aj.c0 K6;have Tn:=ag hb;clear hb;replace Kc:=ag Kc;have hc0:=ag hc;replace Lb:=ag Lb;clear YV Mk;rcases lf with _|_
  ·have OU:=yl (now:=now) (p:=p) (up:=xs) hc Lb.out;change Hid _ at OU SE;go_wp2;go_ret;exact⟨29,s0,rfl,by rw[SE.out];exact OU.out,(o.more w .no),H2.below ρE,NM,JE.step0 ρE⟩
  have PA:(s0.e i).c.lf=true:=by rw[Kc.out];exact Lb.out
  unfold dT at Q0;rw[ZP PA] at Q0;obtain⟨Q,Pw,rfl,Q2,Ot⟩:=Q0;change Hid _ at PA Ot;clear lX3 lX0 X0;have JU:=(aj.c0 K6);have J0:=((aj.c3 K6).trans σv);by_cases Uh:p.len<1
  ·have d1:=ZT Uh;have OU:=uR (now:=now) (up:=xs) hc Lb.out (p:=p) (.inl Uh);exact ξr
  have d1:=ZF Uh;by_cases PE:s0.Lm<p.len
  ·have d2:=ZT PE;have OU:=uR (now:=now) (up:=xs) hc Lb.out (p:=p) (.inr PE);exact ξr
  have d2:=ZF PE;have Lc:1<=p.len/\p.len<=16384:=by rw[e0.2.2.2.2.1] at PE;omega
  have ha0:0<=s0.acc/\s0.acc<=1099511627776:=by rw[e0.2.2.2.1];exact hacc
  obtain⟨t1,Vl⟩:=Nq (s0.acc+p.len);have RM:IntKind.u64.wrap p.len=p.len:=ZZ _ ⟨by omega,by omega⟩;have Wg:IntKind.u64.wrap (s0.acc+p.len)=t1:=by rw[Vl];exact ZZ _ ⟨by omega,by omega⟩
  change Hid _ at Vl e0;go_wp2_with fail;refine bK (θ6 JE H2 LJ PB2 K6 Q2) ?_;clear Rr Ss;rintro v3 ⟨JI,H3,LP,Zi,K7,Q3⟩ Rr;replace JU:=(aj.c0 K7);replace J0:=((aj.c3 K7).trans σv);have NC:=ae LP;have RW:=ae Zi;have J8:=λd os=>(aj.c0 (K7.below (ZW _ d os)));have Kq:=λd os=>((aj.c3 (K7.below (ZW _ d os))).trans σv);refine Wq ?_;refine nZ ?_;refine bB (θ6 H3 LP Zi K7 Q3 JI) ?_;clear Rr;rintro v4 ⟨H4,N5,PB4,K8,Q4,JJ⟩ Rr;replace JU:=(aj.c0 K8);replace J0:=((aj.c3 K8).trans σv);clear NC RW J8 Kq H3 LP Zi K7 Q3;by_cases hl3:1099511627776<t1
  ·have d3:=ZT hl3;have OU:=wl (now:=now) (up:=xs) hc Lb.out (p:=p) ρa ρa (by rw[Vl.out];omega);change Hid _ at OU SE;go_wp2_with fail;refine δx ?_;clear Rr JU J0;intro v5 JP v6 H6 Oj UE LH Q6 JT Rr JU J0;go_wp2;go_ret;exact⟨28,s0,rfl,by rw[SE.out];exact OU.out,(o.more w .no),H6.below ρE,NM,JT.step0 ρE⟩
  have d3:=ZF hl3;go_wp2_with fail;refine δx ?_;clear Rr JU J0;intro v5 JP v6 H6 Oj UE LH Q6 JT Rr JU J0;go_wp2_with fail;refine bK (θ6 JT H6 Oj UE LH Q6) ?_;clear Rr;rintro v7 ⟨J7,H7,Si,PB7,Om,Q7⟩ Rr;replace JU:=(aj.c0 Om);replace J0:=((aj.c3 Om).trans σv);have NC:=ae Si;have RW:=ae PB7;have J8:=λd os=>(aj.c0 (Om.below (ZW _ d os)));have Kq:=λd os=>((aj.c3 (Om.below (ZW _ d os))).trans σv);refine Ws 5 (gC ?_);refine bB (θ6 H7 Si PB7 Om Q7 J7) ?_;clear Rr;rintro v8 ⟨H8,QO,PB8,Oo,Q8,Ka⟩ Rr;replace JU:=(aj.c0 Oo);replace J0:=((aj.c3 Oo).trans σv);clear NC RW J8 Kq H7 Si PB7 Om Q7;have K8:=Oo;have H4:=H8;have Q4:=Q8;have PB4:=PB8;have N5:=QO;have JJ:=Ka;have v4h:True:=trivial;have lX0:=aj.c0 K8;have ok0:=ok;replace ok:=ag ok;by_cases hl4:(s0.e i).c.by_ - aA (s0.e i).q<p.len
  ·have OU:=qF (now:=now) (up:=xs) hc Lb.out (p:=p) ρa ρa (by rw[Vl.out];omega) (.inl (by rw[<- Kc.out];omega));go_wp2_with fail;refine(qG Q _ _ _ p Pw v8 Q4 Lc.1 Lc.2 hl4).mono ?_;exact ξt
  have hql:(s0.e i).q.length<=(s0.e i).c.pk.toNat:=aY.len Q4;by_cases hl5:(s0.e i).q.length=(s0.e i).c.pk.toNat
  ·have OU:=qF (now:=now) (up:=xs) hc Lb.out (p:=p) ρa ρa (by rw[Vl.out];omega) (.inr (by rw[<- Kc.out];omega));go_wp2_with fail;refine(tG Q _ _ _ p Pw v8 Q4 Lc.1 Lc.2 ρa hl5).mono ?_;exact ξt
  have OU:=DV (now:=now) (up:=xs) hc Lb.out (p:=p) ρa ρa (by rw[Vl.out];omega) (by rw[<- Kc.out];omega) (by rw[<- Kc.out];omega);rw[Vl.out] at OU;go_wp2_with fail;refine(yq Q _ _ _ p Pw v8 Q4 Lc.1 Lc.2 ρa ρa).mono ?_;rintro e v5 ⟨rfl,QA5,kx⟩;have nRq:¬Pw w:=λf=>by have:=Ot.out _ f;rw[YL _ (ZR _)] at this;cases this
  have KP:=K8.ko kx τc;have UD:=PB4.ko kx nRq;have ML:=N5.ko kx (λf=>by have:=Ot.out _ f;rw[oS] at this;cases this);have H5:=H4.entTo (x:={s0.e i with q:=(s0.e i).q++[p]}) hc Tn.out Kc.out kx (λy f=>.inr (Ot.out y f)) ⟨aj.popq KP,ob,by unfold dT;rw[ZP PA.out];exact⟨Q,Pw,rfl,QA5,Ot.out⟩,ok.out⟩;have JP:=JJ.trans kx σG;have z5:=kx.size;obtain⟨s1,KI⟩:=Nq (s0.setE i {s0.e i with q:=(s0.e i).q++[p]});rw[KI] at H5;have e1:s1.T=s0.T/\s1.Lm=s0.Lm/\s1.clk=s0.clk/\s1.acc=s0.acc:=by rw[<- KI];exact⟨rfl,rfl,rfl,rfl⟩
  clear kx H4 K8 PB4 N5 Q4 JJ;change Hid _ at KI OU SE e1;have Q5:=QA5;clear QA5;have Ss:=θ2 ML.r UD.r;go_upto_region 17 with (fail);refine bK (θ6 JP H5 ML UD KP Q5) ?_;clear Rr Ss;rintro v6 ⟨JT,H6,Oj,UE,LH,Q6⟩ Rr;have NC:=ae Oj;have RW:=ae UE;refine Ws 10 (gC ?_);refine bB (θ6 H6 Oj UE LH Q6 JT) ?_;clear Rr;rintro v7 ⟨H7,Si,PB7,Om,Q7,J7⟩ Rr;clear NC RW H6 Oj UE LH Q6;have lX0:=aj.c0 Om;go_upto_region 18 with (fail);refine ii v7 (λy=>y=a.S) (λv=>ah v a.S #[ι ε s0.T,ι ε s0.Lm,a.T,.map (some a.BY),a.ON,a.LV,.map (some a.KM),s0.clk,t1] 155) ρB (λ_ kx=>kx) ?_;rintro v8 QO kx;have H8:=H7.numTo (clk:=s1.clk) (acc:=t1) kx (by rw[e1.out.1,e1.out.2.1,e1.out.2.2.1];exact QO);have Ka:=J7.trans kx (by intro x hx f;show TG.mine _;rw[<- NM x hx,f,oS];simp[TG.mine]);have PB8:=PB7.ko kx SJ;have Oo:=Om.ko kx (λf=>by rw[f,oS] at ob;cases ob);have Q8:=Q7.ko kx (λy hy f=>by have:=Ot.out y hy;rw[f,oS] at this;cases this);have z8:=kx.size;clear kx H7 PB7 Om Q7 Si J7 lX0;have Ss:=θ2 QO.r PB8.r;have lX0:=aj.c0 Oo;obtain⟨n,hn⟩:=Nq (((s0.e i).q++[p]).length);go_wp2_with fail;refine(tF Q _ _ _ Pw _ Q8).mono ?_;rintro e u ⟨rfl,rfl⟩;rw[hn];by_cases h1:n=1
  rotate_left
  ·have JL:((n:Int)==1)=false:=by rw[ZN];omega
   have JX:(s0.e i).q≠[]:=λe=>h1 (by rw[<- hn,e];rfl);change Hid _ at JX hn;go_wp2;go_ret;exact⟨0,{s1 with acc:=t1},rfl,by rw[SE.out];exact(by rw[OU.out,ZI JX.out,KI.out]),(o.more w .no),H8.below ρE,NM,Ka.step0 ρE⟩
  subst h1;have RH:(s0.e i).q=[]:=by cases hq:(s0.e i).q with|nil=>rfl|cons x r=>rw[hq] at hn;simp at hn
  have hsi:(s1.e i).q≠[]:=by rw[<- KI.out];unfold SS.setE ax;simp
  have OV:∀j,(s1.e j).c=(s0.e j).c:=by rw[<- KI.out];intro j;unfold SS.setE ax;simp only[];split<;>rename_i e<;>first|(rw[e])|rfl
  have W8:({s1 with acc:=t1}:SS).Wf:=Wf.of_same W0 (by rw[<- KI.out];rfl) (λj d h=>by show (s1.e j).c=d;rw[OV j];exact W0.ec j d h) (λp j h=>by rw[<- KI.out] at h;exact h) (λj h=>by rw[<- KI.out] at h;exact h);have Th:s1.L=s0.L/\s1.kd=s0.kd/\s1.A=s0.A:=by rw[<- KI.out];exact⟨rfl,rfl,rfl⟩
  change Hid _ at hn RH hsi OV Th;go_wp2_with fail;refine(Dt (o.more w .no) a {s1 with acc:=t1} now i p.len xs c b _ H8 W8 (λp j q h=>Vm p j q (by have h2:s1.kd p j=some q:=h;rw[Th.out.2.1,e0.out.2.2.2.2.2] at h2;exact h2)) (by show fc s1.L i=some c;rw[Th.out.1];exact hc) Lb.out hsi.out Tn.out hnow ⟨by omega,by omega⟩ (λh=>by show cf s1.L i xs/\_/\_/\s1.A.is i=false;rw[Th.out.1,Th.out.2.2,e0.out.1,e0.out.2.2.1];exact hs c (by rw[<- e0.out.1];exact hc) Lb.out (by rw[<- e0.out.2.1];exact RH.out) h)).mono ?_;rintro e v9 ⟨rfl,o9,H9,oe9,kx⟩;have Km:=Ka.trans kx (by intro x hx f;(try dsimp only at f);rw[NM x hx] at f;exact f);have z9:=kx.size;have ow9:∀x,x<w.heap.size->o9 x=o x:=λx hx=>(oe9 x ρa).trans (NM x hx);clear kx;go_wp2;go_ret;exact⟨0,({s1 with acc:=t1}:SS).wake now i p.len xs,rfl,by rw[SE.out];exact(by rw[OU.out,ZP RH.out,KI.out]),o9,H9.below ρE,ow9,Km.step0 ρE⟩
end Go.Proofs.YtfdlemkplejdnaaGreat
