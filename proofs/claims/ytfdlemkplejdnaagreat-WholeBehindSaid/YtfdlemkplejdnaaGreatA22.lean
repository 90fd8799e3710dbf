/- WholeBehind, part 22. Conditions: none. -/
import Derived.Test.YtfdlemkplejdnaaGreatA14
import Derived.Test.YtfdlemkplejdnaaGreatA20
import Derived.Test.YtfdlemkplejdnaaGreatA21
namespace Go.Proofs.YtfdlemkplejdnaaGreat
open Go.RowKit Go.Sort
open Value renaming int->ι,pointer->ψ,slice->ζ,tuple->χ,agg->φ,map->μ,bool->β
open IntKind renaming u64->υ,i64->ε,u16->ω
open Ending renaming returned->ϰ
open Go.Proofs.Tryz renaming prog->Ψ,underlying3->Θ,underlying147->Δ,underlying152->Γ,underlying202->Φ,underlying39->Ξ,underlying207->Ω
open Go renaming World->ϖ,Value->ϗ
set_option linter.unusedVariables false
set_option linter.unusedSimpArgs false
set_option maxHeartbeats 8000000
set_option maxRecDepth 100000
theorem sH {L:List CD} {i:Int} (h:∀c,fc L i=some c->dz c=false):ew L i=none:=by
 unfold ew;cases hc:fc L i with
 | none=>rfl
 | some c=>simp[h c hc]
theorem kP {L:List CD} (h0:fc L 0=none):∀{xs:List Int} {i:Int},bM L i xs->bQ L i xs
 | [],i,h=>by have h:i=0:=h;rw[h];exact h0
 | x::r,i,⟨h1,c,h2,h3,h4⟩=>⟨c,h2,h1,kP h0 h4⟩
theorem eV:∀{xs:List Int} {K:Int->List Int},∀y ∈ (aH K xs).1,y ∈ xs
 | [],_,y,h=>h
 | [i],_,y,h=>h
 | i::p::r,K,y,h=>by
  unfold aH at h;split at h
  ·rcases ZC.1 h with h|h
   ·simp[h]
   ·exact rt _ (eV y h)
  ·simp at h;simp[h]
theorem Wf.of_same {s t:SS} (h:s.Wf)(hL:t.L=s.L)(hc:∀i c,fc s.L i=some c->(t.e i).c=c)(hk:∀p j,t.kd p j≠none->s.kd p j≠none)(hl:∀j,t.lv j≠none->s.lv j≠none):t.Wf:=by obtain⟨h1,h2,h3,h4,h5,h6,h7,h8⟩:=h;refine⟨by rw[hL];exact h1,by rw[hL];exact h2,λp j hj=>by rw[hL];exact h3 p j (hk p j hj),by rw[hL];exact h4,λi c hh=>hc i c (by rw[<- hL];exact hh),λj hj=>?_,by rw[hL];exact h7,by rw[hL];exact h8⟩;rw[hL];exact h6 j (hl j hj)
theorem eK (s:SS)(i:Int):(s.sleep1 i).L=s.L/\(∀j,((s.sleep1 i).e j).c=(s.e j).c/\((s.sleep1 i).e j).q=(s.e j).q)/\(s.sleep1 i).lv=s.lv/\(s.sleep1 i).A=s.A/\(∀p j,(s.sleep1 i).kd p j≠none->s.kd p j≠none):=by
 unfold SS.sleep1;refine⟨rfl,λj=>?_,rfl,rfl,λp j h=>?_⟩
 ·simp only[];split
  ·dsimp only;split<;>exact⟨rfl,rfl⟩
  ·exact⟨rfl,rfl⟩
 ·simp only[] at h;unfold aw at h;split at h
  ·rename_i e;unfold aJ at h;split at h
   ·exact ax rfl h
   ·rw[e];exact h
  ·exact h
theorem Wf.sleep1 {s:SS} (h:s.Wf)(i:Int):(s.sleep1 i).Wf:=by obtain⟨h1,h2,h3,h4,h5⟩:=eK s i;exact Wf.of_same h h1 (λj c hc=>by rw[(h2 j).1];exact h.ec j c hc) h5 (λj hj=>by rw[<- h3];exact hj)
theorem wF {L:List CD} (h:(L.map CD.id).Nodup) {c:CD} (hc:c ∈ L):fc L c.id=some c:=by
 induction L with
 | nil=>cases hc
 | cons a r ih=>
  rw[gY,ZD] at h;unfold fc;rcases ZC.1 hc with rfl|hc
  ·rw[ZP rfl]
  ·rw[ZI (λe=>h.1 (by rw[<- e];exact List.mem_map_of_mem hc))];exact ih h.2 hc
theorem gi {w:ϖ} {T M:Nat} {L:List CD} (h:aF w T M L):(L.map CD.id).Nodup:=by have:=aA.nodup h.2.1;rwa [tl,List.map_map] at this
def SS.anew (s:SS)(xs:List Int):SS:={s with e:=λj=>if j ∈ xs then {s.e j with sh:=CH.zero} else s.e j}
theorem uB (s:SS)(xs:List Int)(x:Int):s.anew (xs++[x])=(s.anew xs).setE x {(s.anew xs).e x with sh:=CH.zero}:=by
 unfold SS.anew SS.setE
 congr 1
 funext j
 unfold aw;simp only[ZM,ZS];by_cases h1:j=x
 ·subst h1;rw[ZP (.inr rfl),ZP rfl];split<;>rfl
 ·rw[ZI h1];by_cases h2:j ∈ xs
  ·rw[ZP (.inl h2),ZP h2]
  ·rw[ZI (by simp[h1,h2]),ZI h2]
theorem wk (s:SS):s.anew []=s:=by unfold SS.anew;simp
theorem jG:CH.zero.ok/\(0<=CH.zero.t/\CH.zero.t<=Ma):=by refine⟨⟨?_,?_⟩,by decide⟩<;>(unfold LN.ok CH.zero ai;simp)
theorem qF {s:SS} {i p:Int} {m:TM} (hp:(s.e i).c.par=p)(hm:aJ (s.kd p) i none=m)(h:¬∀j,m j=none):s.sleep1 i={s with kd:=aw s.kd p m}:=by subst hp hm;unfold SS.sleep1;simp only[ZI h]
theorem sU {s:SS} {i p:Int} {m:TM} (hp:(s.e i).c.par=p)(hm:aJ (s.kd p) i none=m)(h:∀j,m j=none)(Lx:(s.L.map CD.id).Nodup)(ec:∀j c,fc s.L j=some c->(s.e j).c=c):s.sleep1 i=SS.anew {s with kd:=aw s.kd p m} (aN (λc=>decide (c.par=p)) s.L):=by
 subst hp hm;unfold SS.sleep1 SS.anew;simp only[ZP h]
 congr 1
 funext j
 have:(j ∈ aN (λc=>decide (c.par=(s.e i).c.par)) s.L)↔((fc s.L j).isSome=true/\(s.e j).c.par=(s.e i).c.par):=by
  rw[mU];constructor
  ·rintro⟨c,h1,h2,rfl⟩;have:=wF Lx h1;refine⟨by rw[this];rfl,?_⟩;rw[ec _ c this];simpa using h2
  ·rintro⟨h1,h2⟩;obtain⟨c,hc⟩:=Option.isSome_iff_exists.1 h1;refine⟨c,(aM hc).1,?_,(aM hc).2⟩;rw[<- ec _ c hc];simpa using h2
 by_cases h2:j ∈ aN (λc=>decide (c.par=(s.e i).c.par)) s.L
 ·rw[ZP h2,ZP (this.1 h2)]
 ·rw[ZI h2,ZI (λq=>h2 (this.2 q))]
theorem rN (o:aT)(a:Ad)(s:SS)(i:Int)(w:ϖ)(H:ar o w a s)(hn:∀c,fc s.L i=some c->dz c=false):
  CB 165 #[a.S,ι ε i] w (χ #[]):=by
 have S':=H.1;have A':=H.2.2.2.2.1;have Rr:=S'.r;unfold CB;go_in;go_wp2_with fail;refine(uz s.A a.ON a.A a.O a.C o s.L i w A' (sH hn)).mono ?_;rintro e v ⟨rfl,rfl⟩;go_wp2;go_returns;exact⟨rfl,ρE⟩
theorem m9:∀{xs:List Int} {K:Int->List Int},(aH K xs).1.length<=xs.length
 | [],_=>ZR _
 | [i],_=>ZR _
 | i::p::r,K=>by
  unfold aH;split
  ·have:=m9 (xs:=p::r) (K:=aw K p (dy i (K p)));simp only[mM] at*;omega
  ·simp
theorem aj.size {w:ϖ} {b:Nat} {qv:ϗ} {x:EN} (h:aj w b qv x):b<w:=ah.size h
theorem zJ (o:aT)(a:Ad)(s:SS)(i:Int)(xs:List Int)(c:CD)(w:ϖ)(H:ar o w a s)(W:s.Wf)(hc:fc s.L i=some c)(hs:dz c=true)(hl:c.lf=true)(hi:s.A.is i=true)(hp:bM s.L i xs)(Kx:xs≠[])(hx:xs.length<=1000)(MO:xs.Nodup)(hK:∀y ∈ 0::xs.tail,s.A.K y≠[]):Calls Ψ 165 #[a.S,ι ε i] w λe w'=>e=ϰ (χ #[])/\∃o',ar o' w' a (s.sleep i xs)/\(∀x,x<w.heap.size->o' x=o x)/\KO (λx=>(o x).mine) w w':=by
 have H0:=H.own (o':=o.more w .no) (λx hx=>aT.more_lt hx);have S':=H0.1;have A':=H0.2.2.2.2.1;have T':=H0.2.1;have Lx:=gi T';have Rr:=S'.r;go_in;go_wp2_with fail;refine(Ci s.A a.ON a.A a.O a.C _ s.L i xs c w A' hc hs hl hi hp W.nz Kx hx MO hK).mono ?_;rintro e v1 ⟨u,rfl,G1,A1,kx⟩;have H1:=H0.actTo A1 (λ_ _=>rfl) kx;have MS:∀x,x<w.heap.size->o.more w .no x=o x:=λx hx=>aT.more_lt hx;have F':KO (λx=>(o x).mine) w v1:=kx.mono (λx hx f=>by (try dsimp only at f);rw[MS x hx] at f;show TG.mine _;intro e;rw[e] at f;exact f);obtain⟨ys,Jd⟩:=Nq ((aH s.A.K xs).1);rw[Jd] at G1;have ME:∀y ∈ ys,y ∈ xs:=by rw[<- Jd];exact eV
 have Pq:ys.length<=1000:=by rw[<- Jd];exact ZK m9 hx
 obtain⟨oa,oc,rfl⟩:=G1.slice;have nz1:∀x,some x=(Value.slice oa ys.length oc).ownBlock->o.more w .no x=.no:=λx hx=>aT.more_ge (G1.own_ge x hx.symm).1;obtain⟨s0,Ka⟩:=Nq ({s with A:=⟨aw s.A.on i false,(aH s.A.K xs).2⟩}:SS);have W1:s0.Wf:=τn;have eL0:s0.L=s.L:=by rw[<- Ka]
 rw[Ka] at H1;have Qk:∀y ∈ xs,∃c,fc s.L y=some c:=eA (kP W.nz hp);have z1:=kx.size;have Lt:s.sleep i xs=ys.foldl SS.sleep1 s0:=by unfold SS.sleep;rw[ZP ⟨by rw[W.ec i c hc];exact hs,hi⟩,Jd,Ka]
 change Hid _ at Lt Ka Jd ME Qk;clear S' A' T' A1 kx;go_wp2_with fail;go_loopw [24] (λk wr=>∃(a1 b1:List Int) (o1:aT),k=ι ε (a1.length:Nat)/\ys=a1++b1/\ar o1 wr a (a1.foldl SS.sleep1 s0)/\(a1.foldl SS.sleep1 s0).Wf/\(a1.foldl SS.sleep1 s0).L=s.L/\HI wr w (ζ oa ys.length oc) ys/\(∀x,some x=(Value.slice oa ys.length oc).ownBlock->o1 x=.no)/\(∀x,x<w.heap.size->o1 x=o x)/\KO (λx=>(o x).mine) w wr) (λk _=>ys.length - (intOf k).toNat);case atStart=>exact⟨[],ys,_,rfl,rfl,H1,W1,eL0,G1,nz1,MS,F'⟩
 case round=>
  obtain⟨a1,b1,o1,rfl,IF,H0,W0,eL,G0,nz0,UJ,IB⟩:=hrel;clear H1 G1 nz1 MS F' W1;have IK:a1.length+b1.length=ys.length:=by rw[IF,ZL]
  obtain⟨q,hq⟩:=Nq a1.length;rw[hq] at IK ⊢;have zw:=IB.size;cases b1 with
  | nil=>have IJ:¬q<ys.length:=ρo;have hd:=ZF IJ;have PO:a1=ys:=ρN;rw[PO] at H0;change Hid _ at IK hq;clear IF PO;go_wp2_with fail;go_end0;exact⟨rfl,_,(H0.below ρE).same Lt.out.symm,UJ,IB.step0 ρE⟩
  | cons x r=>
   have IJ:q<ys.length:=ρo;have hd:=ZT IJ;have Lz:ys[q]?=some x:=ρF;have IX:ys≠[]:=ρR;obtain⟨c,hc⟩:=Qk.out x (ME.out x ρR);have JB:(a1++[x]).foldl SS.sleep1 s0=(a1.foldl SS.sleep1 s0).sleep1 x:=by rw[List.foldl_append];rfl
   obtain⟨s1,Ju⟩:=Nq (a1.foldl SS.sleep1 s0);rw[Ju] at H0 W0 eL JB;rw[<- eL] at hc;obtain⟨Tz,MX,g0,e0,JA,e1,_⟩:=ae.at G0 (λ_=>rfl);have e1:=e1 IX;obtain⟨rfl,-,rfl⟩:=ZV e0;subst e1;obtain⟨cx,gx,bx⟩:=HI.cell G0 q x Lz;have W3:=Wf.sleep1 W0 x;have eL3:=(eK s1 x).1.trans eL;obtain⟨Rv,Zl,LG,Xj,-,-,Mp,YG,oS,oT,oM,SH,SJ⟩:=id H0;obtain⟨b,qv,hb,Jj,QF,ob,ok⟩:=Xj.at hc;obtain⟨p,hp⟩:=Nq ((s1.e x).c.par);have Mm:bV s1.L p=true:=by rw[<- hp,Jj];exact W0.tree c (aM hc).1
   obtain⟨t,fp,ht,Xs,MZ,-⟩:=YG.out Mm;have Kf:=W0.ids p;have Sl:=W0.len;obtain⟨m,hm⟩:=Nq (aJ (s1.kd p) x none);have lB:=((am Δ Θ LG x (z:=Kp) ρm).2.trans (by rw[hb];try rfl));have lX:=(aj.c2 QF).trans (by rw[hp]);have lK:=((am Γ Θ Mp p (z:=Kp) ρm).2.trans (by rw[ht];try rfl));have Ss:=Rv.r;change Hid _ at IF hq JA IK Ju JB eL hp hb ht hc Jj Kf hm eL3;clear IX Xj YG LG QF;go_wp2_with fail;refine(Dl t (s1.kd p) fp x (s1.L.map CD.id) wr Xs (λj hj=>iZ ((Kf.out j hj).imp λc h=>h.1)) (by rw[pf];omega)).mono ?_;rintro e v3 ⟨er,rfl,TT⟩;rw[hm.out] at TT;have H3:=H0.kdTo Mm ht.out MZ TT;obtain⟨fp3,T3,hfp3,kx⟩:=TT;have zz:=kx.size;have ID:=IB.trans kx (by intro y hy f;show TG.mine _;rw[<- UJ y hy,MZ y f];simp[TG.mine]);have G3:=ae.ko G0 kx (λy _ hy f=>by have h1:=nz0 y hy;rw[MZ y f] at h1;cases h1);have Yv:∀y,y<w.heap.size->o1.more wr (.kd p) y=o y:=λy hy=>(aT.more_lt ρa).trans (UJ y hy);have nz3:∀y,some y=(Value.slice g0 ys.length oc).ownBlock->o1.more wr (.kd p) y=.no:=λy hy=>(aT.more_lt (G0.own_ge y hy.symm).2).trans (nz0 y hy);obtain⟨KK,KA,-,-,-,-,MT,-,-⟩:=id H3;have lK3:=((am Γ Θ MT p (z:=Kp) ρm).2.trans ρU);replace Ss:=θ2 Rv.r KK.r;clear lB lX lK Rv Mp Zl Xs H0 G0 nz0 UJ IB kx cx gx bx;go_wp2_with fail;refine(BJ t m fp3 v3 T3).mono ?_;rintro e u ⟨n,rfl,hn,rfl⟩;by_cases h0:n=0
   rotate_left
   ·have hd:=dt ((0:Int)<(n:Int));have he:=qF hp.out hm.out (λh=>h0 (hn.2 h));change Hid _ at he hn;go_wp2;go_roundw;case rel=>exact⟨a1++[x],r,_,by rw[ZL,hq.out];go_num,by rw[IF.out];simp,by rw[JB.out,he.out];exact H3.below ρE,by rw[JB.out];exact W3,by rw[JB.out];exact eL3.out,ae.below G3 ρE,nz3,Yv,ID.step0 ρE⟩
    case measure=>exact ξc
   ·subst h0;have he:=sU hp.out hm.out (hn.1 rfl) (by rw[eL.out];exact Lx) W0.ec;change Hid _ at he hn;go_wp2_with fail;refine(jK a.T a.M _ p _ KA Sl).mono ?_;rintro e v4 ⟨u,rfl,C4,kx⟩;have H4:=H3.below kx;have G4:=ae.below G3 kx;have IC:=ID.step0 kx;have z4:=kx.size;obtain⟨cs,KD⟩:=Nq (aN (λc=>decide (c.par=p)) s1.L);rw[show aN (λc=>decide (c.par=p)) ({s1 with kd:=aw s1.kd p m}:SS).L=cs from KD] at C4;rw[KD] at he;have Uk:∀y ∈ cs,∃c,fc s1.L y=some c:=by rw[<- KD];exact λy hy=>ig hy
    have JG:cs.length<=1000:=by rw[<- KD,aN,List.length_mergeSort,pf];exact ZK (ZH _ _) Sl
    obtain⟨ca,cc,rfl⟩:=C4.slice;obtain⟨s3,KG⟩:=Nq ({s1 with kd:=aw s1.kd p m}:SS);have e3L:s3.L=s1.L:=by rw[<- KG]
    have e3e:s3.e=s1.e:=by rw[<- KG]
    rw[KG] at H4 he;obtain⟨o3,Wt⟩:=Nq (o1.more wr (.kd p));rw[Wt] at H4 nz3 Yv;change Hid _ at KD Uk KG e3L e3e Wt;clear lK3 KK KA MT H3 G3 ID kx T3;go_wp2_with fail;obtain⟨wo,hwo⟩:∃wo:ϖ,wo=wr:=⟨_,rfl⟩;go_loopw [61] (λk wr=>∃(a2 b2:List Int),k=ι ε (a2.length:Nat)/\cs=a2++b2/\ar o3 wr a (s3.anew a2)/\HI wr v3 (ζ ca cs.length cc) cs/\HI wr w (ζ g0 ys.length oc) ys/\KO (λx=>(o x).mine) w wr) (λk _=>cs.length - (intOf k).toNat);case atStart=>exact⟨[],cs,rfl,rfl,by rw[wk];exact H4,C4,G4,IC⟩
    case round=>
     obtain⟨a2,b2,rfl,Yo,H5,C5,G5,IN⟩:=hrel;clear H4 C4 G4 IC;have XN:a2.length+b2.length=cs.length:=by rw[Yo,ZL]
     obtain⟨q2,Kk⟩:=Nq a2.length;rw[Kk] at XN ⊢;have zw5:=IN.size;cases b2 with
     | nil=>
      have Kg:¬q2<cs.length:=by simp at XN;omega
      have Li:=ZF Kg;have PO:a2=cs:=by rw[Yo,ZA]
      rw[PO] at H5;change Hid _ at XN Kk;clear Yo PO;go_wp2;go_roundw;case rel=>exact⟨a1++[x],r,o3,by rw[ZL,hq.out];go_num,by rw[IF.out];simp,by rw[JB.out,he.out];exact H5.below ρE,by rw[JB.out];exact W3,by rw[JB.out];exact eL3.out,ae.below G5 ρE,nz3,Yv,IN.step0 ρE⟩
      case measure=>exact ξc
     | cons y r2=>
      have Kg:q2<cs.length:=by simp at XN;omega
      have Li:=ZT Kg;have hyq:cs[q2]?=some y:=by rw[Yo,<- Kk];simp
      have hne2:cs≠[]:=by rw[Yo];simp
      obtain⟨d,Ul⟩:=Uk.out y (by rw[Yo];simp);have JQ:=uB s3 a2 y;have e5L:(s3.anew a2).L=s1.L:=e3L.out;obtain⟨s5,WB⟩:=Nq (s3.anew a2);rw[WB] at H5 JQ e5L;rw[<- e5L] at Ul;obtain⟨ca2,cap3,g1,e0,hcap3,e1,_⟩:=ae.at C5 (λ_=>rfl);have e1:=e1 hne2;obtain⟨rfl,-,rfl⟩:=ZV e0;subst e1;obtain⟨cy,gy,by2⟩:=HI.cell C5 q2 y hyq;obtain⟨Ln,-,TD,E'5,-,-,-,-,oS5,-⟩:=id H5;obtain⟨b5,qv5,JF,Mt,E5,-⟩:=E'5.out Ul;have JO:aj wr b5 qv5 (s5.e y):=E5.1;have lB:=((am Δ Θ TD y (z:=Kp) ρm).2.trans (by rw[JF];try rfl));replace Ss:=Ln.r;have zb5:=JO.size;change Hid _ at Yo Kk XN WB JQ e5L JF Mt Ul;clear E'5 TD hne2;go_wp2_with (first|(refine aj.ssh JO CH.zero (.tmp 73) (.tmp 71) ρr ρr ρr ρr ?_;intro v6 KC kx zx));have Qm:=E5.2.1;have H6:=H5.entTo (i:=y) (x:={s5.e y with sh:=CH.zero}) Ul.out JF.out Mt.out kx (λk e=>.inl (by rw[e];exact Qm)) ⟨KC,Qm,E5.2.2.1.ko kx (λk hk e=>by rw[e,Qm] at hk;cases hk),⟨E5.2.2.2.1,E5.2.2.2.2.1,E5.2.2.2.2.2.1,jG.1,jG.2,E5.2.2.2.2.2.2.2.2⟩⟩;have C6:=ae.ko C5 kx (λz _ hz e=>ae.ne_blk C5 JO ρf (by rw[<- e];exact hz));have G6:=ae.ko G5 kx (λz _ hz e=>ae.ne_blk G5 JO ρf (by rw[<- e];exact hz));have IQ:=IN.trans kx (by intro z hz e;show TG.mine _;rw[<- Yv z hz,e,Qm];simp[TG.mine]);clear kx;go_roundw;case rel=>exact⟨a2++[y],r2,by rw[ZL,Kk.out];go_num,by rw[Yo.out];simp,by rw[JQ.out];exact H6.below ρE,ae.below C6 ρE,ae.below G6 ρE,IQ.step0 ρE⟩
      case measure=>have:=XN.out;simp[intOf] at*;omega
open Classical in
noncomputable def oI (m:TM):Bool:=decide (∃j,m j≠none)
open Classical in
theorem Fj (B:Nat)(m:TM)(fp:Nat->Prop)(w:ϖ)(H:aQ 211 w B m fp)(v:Int)(x:Bool)(hv:ct m=v)(hx:oI m=x):
  CB 156 #[B] w (χ #[v,β x]):=by
 refine(GF B m fp w H).mono ?_;rintro e w' ⟨u,ok,rfl,hu,hb⟩;have e2:oI m=ok:=by
  unfold oI;cases ok with
  | false=>exact ZF (λ⟨j,hj⟩=>hj (hu.2 j))
  | true=>obtain⟨⟨j,q,hq,_⟩,_⟩:=hu;exact ZT ⟨j,by rw[hq];simp⟩
 exact⟨by rw[<- hv,oJ hu,<- hx,e2],hb⟩
theorem pT {m:TM} (h:∀j q,m j=some q->0<=q.1/\q.1<=Mc):0<=ct m/\ct m<=Mc:=by
 have key:∀v,iT m v true->0<=v/\v<=9223372036854775808:=by rintro v ⟨⟨j,q,hq,e⟩,_⟩;have:=h j q hq;omega
 unfold ct;split
 ·rename_i QN;exact key _ (Classical.choose_spec QN)
 ·omega
theorem vE {c:CH} {m d n low p:Int} (hm:aq m)(hd:0<=d)(hn:aq n)(hl:0<=low/\low<=Mc)(hp:aq p)(oc:c.ok):(c.wake m d n low p).ok/\(0<=(c.wake m d n low p).t/\(c.wake m d n low p).t<=Ma):=by
 have os:=RN.start_ok (m:=m) (d:=d) (n:=n) hm hd hn hl (iS hp);unfold CH.wake CH.ok;simp only[];split
 ·exact⟨RN.meet_ok oc os,RN.time_rng (RN.meet_ok oc os) p⟩
 ·exact⟨os,RN.time_rng os p⟩
theorem uG {c:CH} {m d n now p:Int} (hm:aq m)(hd:0<=d)(hn:aq n)(hl:0<=now/\now<=Mc)(hp:aq p)(oc:c.ok):(c.capped m d n now p).ok/\(0<=(c.capped m d n now p).t/\(c.capped m d n now p).t<=Ma):=by
 have os:=RN.start_ok (m:=m) (d:=d) (n:=n) hm hd hn hl (iS hp);unfold CH.capped;split
 ·exact jG
 ·unfold CH.ok;simp only[];split
  ·have:=RN.reach_rng (RN.meet_ok oc os) (p*65536);exact⟨RN.meet_ok oc os,by omega⟩
  ·have:=RN.reach_rng os (p*65536);exact⟨os,by omega⟩
theorem Bl {l:LF} {m d n x h:Int} (hm:aq m)(hd:0<=d)(hn:aq n)(hx:0<=x/\x<=Mc)(ol:l.ok):((l.woke m d n x).headed h).ok/\(0<=((l.woke m d n x).headed h).e/\((l.woke m d n x).headed h).e<=Ma)/\(0<=((l.woke m d n x).headed h).t/\((l.woke m d n x).headed h).t<=Ma):=by
 have hy:=iS ol.2.2;have o1:=RN.start_ok (m:=m) (d:=d) (n:=n) hm hd hn hx hy;have o2:=RN.ready_ok (m:=m) (d:=d) (n:=n) hm hn ⟨hx.1,by omega⟩ hy;have ok:(l.woke m d n x).ok:=by
  refine⟨?_,?_,ol.2.2⟩
  ·show (if l.has then _ else _:RN).ok;split
   ·exact RN.meet_ok ol.1 o1
   ·exact o1
  ·show (if l.has then _ else _:RN).ok;split
   ·exact RN.meet_ok ol.2.1 o2
   ·exact o2
 have:=tM (x:=false) (s:=0) (h:=h) ok;simpa using this
theorem oz {m d n:Int} (h0:0<=m/\0<=d/\0<=n)(h:Go.Proofs.YtfdlemkplejdnaaGreat.kd m d n≠0):(0<=m/\m<=Ma)/\(0<=d/\d<=Ma)/\(0<=n/\n<=Ma):=by have:=gO h;omega
theorem Wf.duesTo {s:SS} (h:s.Wf) {i:Int} {c:CD} {l:LF} (hc:fc s.L i=some c)(hl:c.lf=true):(s.duesTo i l).Wf:=by
 obtain⟨h1,h2,h3,h4,h5,h6,h7,h8⟩:=h;have ee:∀j,((s.duesTo i l).e j).c=(s.e j).c/\((s.duesTo i l).e j).q=(s.e j).q:=λj=>ηL
 refine⟨h1,h2,h3,h4,λj d hd=>by rw[(ee j).1];exact h5 j d hd,λj hj=>?_,h7,h8⟩;by_cases e:j=i
 ·rw[e];exact⟨c,hc,hl⟩
 ·refine h6 j ?_;have hj:aJ s.lv i (some (l.e,l.t)) j≠none:=hj;unfold aJ at hj;rw[ZI e] at hj;exact hj
theorem tA (now:Int)(s:SS)(i:Int):(s.wake1 now i).L=s.L/\(s.wake1 now i).kd=s.kd/\(s.wake1 now i).A=s.A/\(s.wake1 now i).lv=s.lv/\(∀j,((s.wake1 now i).e j).c=(s.e j).c/\((s.wake1 now i).e j).q=(s.e j).q):=by refine⟨rfl,rfl,rfl,rfl,λj=>?_⟩;unfold SS.wake1 SS.setE aw;simp only[];split<;>rename_i e<;>first|(rw[e];exact⟨rfl,rfl⟩)|exact⟨rfl,rfl⟩
theorem mh (now:Int):∀(xs:List Int)(s:SS),(xs.foldl (SS.wake1 now) s).L=s.L/\(xs.foldl (SS.wake1 now) s).kd=s.kd/\(xs.foldl (SS.wake1 now) s).A=s.A/\(xs.foldl (SS.wake1 now) s).lv=s.lv/\(∀j,((xs.foldl (SS.wake1 now) s).e j).c=(s.e j).c/\((xs.foldl (SS.wake1 now) s).e j).q=(s.e j).q)
 | [],s=>⟨rfl,rfl,rfl,rfl,λ_=>⟨rfl,rfl⟩⟩
 | x::r,s=>by obtain⟨h1,h2,h3,h4,h5⟩:=mh now r (s.wake1 now x);obtain⟨g1,g2,g3,g4,g5⟩:=tA now s x;exact⟨h1.trans g1,h2.trans g2,h3.trans g3,h4.trans g4,λj=>⟨(h5 j).1.trans (g5 j).1,(h5 j).2.trans (g5 j).2⟩⟩
theorem im:∀{xs:List Int} {K:Int->List Int},∀y ∈ (aX K xs).1,y ∈ xs
 | [],_,y,h=>h
 | [i],_,y,h=>h
 | i::p::r,K,y,h=>by
  unfold aX at h;split at h
  ·rcases ZC.1 h with h|h
   ·simp[h]
   ·exact rt _ (im y h)
  ·simp at h;simp[h]
theorem pZ:∀{xs:List Int} {K:Int->List Int},(aX K xs).1.length<=xs.length
 | [],_=>ZR _
 | [i],_=>ZR _
 | i::p::r,K=>by
  unfold aX;split
  ·have:=pZ (xs:=p::r) (K:=aw K p (dG i (K p)));simp only[mM] at*;omega
  ·simp
theorem Ct (o:aT)(a:Ad)(s:SS)(now i h:Int)(xs:List Int)(c:CD)(b:Nat)(w:ϖ)(H:ar o w a s)(W:s.Wf)(QW:∀p j q,s.kd p j=some q->0<=q.1/\q.1<=Mc)(hc:fc s.L i=some c)(JK:c.lf=true)(hq:(s.e i).q≠[])(hb:lk i a.LB=some (ψ b))(hnow:0<=now/\now<=4611686018427387904)(hh:-Mc<=h/\h<=Mb)(hs:dz c=true->bM s.L i xs/\xs≠[]/\xs.length<=1000/\s.A.is i=false):Calls Ψ 128 #[a.S,now,b,ι ε h] w λe w'=>e=ϰ (χ #[])/\∃o',ar o' w' a (s.wake now i h xs)/\(∀x,x<w.heap.size->o' x=o x)/\KO (λx=>(o x).mine) w w':=by
 obtain⟨S',T',Lk,E',A',⟨Sj,V',Pm⟩,KV,D',oS,oT,oM,SH,SJ⟩:=id H;obtain⟨b2,qv,IW,Jj,E0,-⟩:=E'.out hc;have eb:=iK (hb.symm.trans IW);subst eb;obtain⟨X0,ob,Q',ok⟩:=E0;have X':aj w b qv (s.e i):=X0;have MN:(s.e i).c.id=i:=by rw[Jj];exact(aM hc).2
 obtain⟨rl,Nr⟩:=Nq (SS.real (s.e i).c);have rng:0<=(s.e i).c.r0/\0<=(s.e i).c.r1/\0<=(s.e i).c.r2:=by rw[Jj];exact(T'.2.2 c (aM hc).1).2.2.1
 have rk:=oz rng (by rw[Jj];exact(W.cls c (aM hc).1).1);have Kf:=W.lvs;have Sl:=W.len;have okd:=ok.1;have okn:=(show 0<=now/\now<=Mc by omega);obtain⟨L2,Lh⟩:=Nq (((s.e i).du.woke (s.e i).c.r0 (s.e i).c.r1 (s.e i).c.r2 now).headed h);have Qo:L2.ok/\(0<=L2.e/\L2.e<=Ma)/\(0<=L2.t/\L2.t<=Ma):=by rw[<- Lh];exact Bl rk.1 rk.2.1.1 rk.2.2 okn okd
 obtain⟨s1,Ju⟩:=Nq (if rl then s.duesTo i L2 else s);change Hid _ at MN Jj Pm Kf ok;have OP:=ag Nr;change Hid _ at Ju Lh;clear Nr T' Lk E' A' KV D' IW;have Rr:=S'.r;have IT:=((aj.c1 X').trans τ0);go_in;go_wp2_with (refine aj.lcl X' (.tmp 23) ρr ρr ρr ?_);go_wp2_with fail;refine(rb _ (s.e i).c.id (s.e i).c.par (s.e i).c.lf (s.e i).c.r0 (s.e i).c.r1 (s.e i).c.r2 (s.e i).c.l0 (s.e i).c.l1 (s.e i).c.l2 (s.e i).c.u0 (s.e i).c.u1 (s.e i).c.u2 (s.e i).c.pk (s.e i).c.by_ rng rl OP.out).mono ?_;rintro e v1 ⟨rfl,kx⟩;obtain⟨JE,JS,UX,F'⟩:=Mw kx (θ4 S' X' Q' (Ks (λy=>y=b) w));clear kx S' Q';replace Rr:=JE.r;replace IT:=((aj.c1 JS).trans τ0);go_upto_if 25 with (fail);go_cut [8] (λs8 wx=>s8=ι ε i/\∃o1,ar o1 wx a s1/\(∀x,x<w.heap.size->o1 x=o x)/\KO (λx=>(o x).mine) w wx);case first=>
  rcases rl with _|_
  ·have he:s=s1:=by have:=Ju.out;simpa using this
   replace he:=ag he;go_wp2;go_meet;exact⟨rfl,o,((H.entTo hc hb Jj.out (F'.step0 ρE) τo ⟨JS.below ρE,ob,UX.below ρE,ok.out⟩).same (jQ s i)).same he.out,λ_ _=>rfl,(F'.step0 ρE).mono σO⟩
  have he:s.duesTo i L2=s1:=by have:=Ju.out;simpa using this
  replace he:=ag he;go_wp2_with fail;refine bS (θ4 F' JE JS UX) ?_;clear Rr;rintro v2 ⟨Iz,KJ,JZ,Td⟩ Rr;replace IT:=((aj.c1 JZ).trans τ0);have MH:=af KJ;have Jh:=λd os=>((aj.c1 (JZ.below (ZW _ d os))).trans τ0);refine Ws 15 (mw ?_)
  repeat (first
   | (refine aj.qdu JZ (.tmp 29) ρr ρr ρr ?_;(try simp only[Act.put,List.setIfInBounds_toArray,List.set_cons_succ,List.set_cons_zero]))
   | (refine aj.qrt JZ (.tmp 34) ρr ρr ρr ?_;(try simp only[Act.put,List.setIfInBounds_toArray,List.set_cons_succ,List.set_cons_zero]))
   | (go_big_quiet_step ((first
    | (go_at_call 154;(with_reducible exact bT (yB (s.e i).du L2 _ _ _ now h _ rk.1 rk.2.1 rk.2.2 okn okd hh Lh.out)))))))
  refine bF (θ4 KJ JZ Td Iz) ?_;clear Rr;rintro v3 ⟨KK,J0,Xo,ID⟩ Rr;replace IT:=((aj.c1 J0).trans τ0);clear MH Jh KJ JZ Td;refine aj.sdu J0 L2 (.tmp 40) (.tmp 38) ρr ρr ρr ρr ?_;intro v4 J1 kx zx;have Nh:=KK.ko kx τR;have VP:=Xo.ko kx (λy e f=>by (try dsimp only at f);rw[f,ob] at e;cases e);have IC:KO (λy=>y=b) w v4:=ID.trans kx σh;replace Rr:=Nh.r;replace IT:=((aj.c1 J1).trans ρw);replace I5:=(aj.c36 J1);replace Kq:=(aj.c37 J1);have H4:=H.entTo hc hb (x:={s.e i with du:=L2}) Jj.out IC τo ⟨J1,ob,VP,⟨Qo.1,Qo.2.1,Qo.2.2,ok.out.2.2.2⟩⟩;have Ys:KO (λx=>(o x).mine) w v4:=IC.mono σO;have V4:=V'.ko IC σ5;clear kx zx IC X';have IC:=Ys;clear Ys;go_wp2_with fail;refine bS (θ5 IC H4 V4 Nh J1) ?_;clear Rr;rintro v5 ⟨IN,H5,V5,Ln,JO⟩ Rr;replace IT:=((aj.c1 JO).trans ρw);replace I5:=(aj.c36 JO);replace Kq:=(aj.c37 JO);have MH:=af Ln;have Jh:=λd os=>((aj.c1 (JO.below (ZW _ d os))).trans ρw);have Jt:=λd os=>(aj.c36 (JO.below (ZW _ d os)));have MI:=λd os=>(aj.c37 (JO.below (ZW _ d os)));refine Ws 15 (gw ?_);refine bF (θ5 H5 V5 Ln JO IN) ?_;clear Rr;rintro v6 ⟨H6,V6,Nx,KC,IQ⟩ Rr;replace IT:=((aj.c1 KC).trans ρw);replace I5:=(aj.c36 KC);replace Kq:=(aj.c37 KC);clear MH Jh Jt MI H5 V5 Ln JO;go_wp2_with fail;refine(xZ a.LV s.lv Sj i L2.e L2.t (s.L.map CD.id) _ V6 Qo.2.1 Qo.2.2 (λj hj=>iZ ((Kf.out j hj).imp λc h=>h.1)) (by rw[pf];omega)).mono ?_;rintro e v7 ⟨rfl,TT⟩;have H7:=H6.lvTo Pm.out TT;obtain⟨fp7,_,_,kx⟩:=TT;have z6:=IQ.size;have Yf:∀x,x<w.heap.size->o.more v6 .lv x=o x:=λx hx=>aT.more_lt ρa;have I8:=IQ.trans kx τD;clear kx H6 V6;go_wp2;go_meet;exact⟨rfl,_,(H7.below ρE).same he.out,Yf,I8.step0 ρE⟩
 case rest=>
  obtain⟨rfl,o1,H1,UJ,F'⟩:=hcut
  rename ϖ=>w1
  clear JE JS UX IT V' X';have eL:s1.L=s.L/\s1.A=s.A/\s1.kd=s.kd/\(∀j,(s1.e j).c=(s.e j).c):=by
   rw[<- Ju.out];split
   ·refine⟨rfl,rfl,rfl,λj=>?_⟩;unfold SS.duesTo SS.setE aw;simp only[];split<;>rename_i e<;>first|(rw[e])|rfl
   ·exact⟨rfl,rfl,rfl,λ_=>rfl⟩
  have W1:s1.Wf:=by rw[<- Ju.out];split;exact Wf.duesTo W hc JK;exact W
  have Tr:fc s1.L i=some c:=by rw[eL.1];exact hc
  obtain⟨JE,Kr,Nu,E'1,Om,-,-,-,-⟩:=id H1;obtain⟨b2,qv2,IW,hcc1,JS,ob1,ok1⟩:=E'1.at Tr;have eb:=iK (hb.symm.trans IW);subst eb;have rng1:0<=(s1.e i).c.l0/\0<=(s1.e i).c.l1/\0<=(s1.e i).c.l2:=by rw[hcc1];exact(Kr.2.2 c (aM Tr).1).2.2.2.1
  obtain⟨z,hz⟩:=Nq (cW (Go.Proofs.YtfdlemkplejdnaaGreat.kd (s1.e i).c.l0 (s1.e i).c.l1 (s1.e i).c.l2));have Kw:dz c=z:=by rw[<- hz,hcc1];rfl
  have hwk:s.wake now i h xs=if z then s1.wakeS now i xs else s1:=by unfold SS.wake;simp only[];rw[OP.out,Lh.out,Ju.out,Jj.out,Kw]
  have Ss:=JE.r;change Hid _ at hz hwk hcc1 Kw;have eL0:=eL;replace eL:=ag eL;clear eL0;go_wp2_with (refine aj.lcl JS (.tmp 59) ρr ρr ρr ?_);go_wp2_with fail;refine(lb _ (s1.e i).c.id (s1.e i).c.par (s1.e i).c.lf (s1.e i).c.r0 (s1.e i).c.r1 (s1.e i).c.r2 (s1.e i).c.l0 (s1.e i).c.l1 (s1.e i).c.l2 (s1.e i).c.u0 (s1.e i).c.u1 (s1.e i).c.u2 (s1.e i).c.pk (s1.e i).c.by_ rng1 z hz.out).mono ?_;rintro e y2 ⟨rfl,kx⟩;obtain⟨H2,Iz⟩:=Mw kx (θ2 H1 F');have z2:=kx.size;have KJ:=JE.below kx JE.size;clear JE JS Nu E'1 Om kx H1 F';replace Ss:=KJ.r;rcases z with _|_
  ·have he:s1=s.wake now i h xs:=by have:=hwk.out;simpa using this.symm
   replace he:=ag he;go_wp2;go_returns;exact⟨rfl,o1,(H2.below ρE).same he.out,UJ,Iz.step0 ρE⟩
  obtain⟨hp,Kx,hx,hi⟩:=hs Kw.out;rw[<- eL.out.1] at hp;rw[<- eL.out.2.1] at hi;replace hi:=ag hi;go_wp2_with fail;refine(DR s1.A a.ON a.A a.O a.C o1 s1.L i xs c _ H2.2.2.2.2.1 Tr Kw.out JK hi.out hp W1.nz Kx hx).mono ?_;rintro e v3 ⟨u,rfl,G3,o3,A3,oe,kx⟩;have H3:=H2.actTo A3 oe kx;have Yv:∀x,x<w.heap.size->o3 x=o x:=λx hx=>(oe x (by have:=Iz.size;omega)).trans (UJ x hx);have ID:=Iz.trans kx (by intro x hx f;(try dsimp only at f);rw[UJ x hx] at f;show TG.mine _;intro e;rw[e] at f;exact f);obtain⟨ys,Jd⟩:=Nq ((aX s1.A.K xs).1);rw[Jd] at G3;have Pq:ys.length<=1000:=by rw[<- Jd];exact ZK pZ hx
  have Qk:∀y ∈ ys,∃c,fc s.L y=some c:=by rw[<- Jd,<- eL.out.1];exact λy hy=>eA (kP W1.nz hp) y (im y hy)
  obtain⟨oa,oc,rfl⟩:=G3.slice;obtain⟨s3,KG⟩:=Nq ({s1 with A:=⟨aw s1.A.on i true,(aX s1.A.K xs).2⟩}:SS);have W3:s3.Wf:=by rw[<- KG];exact Wf.of_same W1 rfl W1.ec (λ_ _ h=>h) (λ_ h=>h)
  have e3:s3.L=s.L/\s3.kd=s.kd:=by rw[<- KG];exact⟨eL.out.1,eL.out.2.2.1⟩
  rw[KG] at H3;have Lt:s.wake now i h xs=(ys.foldl (SS.wake1 now) s3).settle xs:=by rw[hwk.out];simp only[if_true];unfold SS.wakeS;rw[Jd,KG]
  have z3:=ID.size;change Hid _ at Lt KG Jd Qk;clear KJ A3 kx H2 hwk;go_wp2_with fail;go_loopw [74] (λk wr=>∃(a1 b1:List Int),k=ι ε (a1.length:Nat)/\ys=a1++b1/\ar o3 wr a (a1.foldl (SS.wake1 now) s3)/\HI wr y2 (ζ oa ys.length oc) ys/\KO (λx=>(o x).mine) w wr) (λk _=>ys.length - (intOf k).toNat);case atStart=>exact⟨[],ys,rfl,rfl,H3,G3,ID⟩
  case round=>
   obtain⟨a1,b1,rfl,IF,H0,G0,IB⟩:=hrel;clear H3 G3 ID;have IK:a1.length+b1.length=ys.length:=by rw[IF,ZL]
   obtain⟨q,hq⟩:=Nq a1.length;rw[hq] at IK ⊢;have zw:=IB.size;obtain⟨j1,j2,j3,j4,j5⟩:=mh now a1 s3;cases b1 with
   | nil=>have IJ:¬q<ys.length:=ρo;have hd:=ZF IJ;have PO:a1=ys:=ρN;rw[PO] at H0 j1 j2 j3 j4 j5;change Hid _ at IK hq;clear IF PO;have W7:(ys.foldl (SS.wake1 now) s3).Wf:=Wf.of_same W3 j1 (λj c hc=>by rw[(j5 j).1];exact W3.ec j c hc) (λp j h=>by rw[j2] at h;exact h) (λj h=>by rw[<- j4];exact h);go_wp2_with fail;refine(jh o3 a _ i xs _ (H0.below ρE) W7 (by rw[j1,e3.1,<- eL.out.1];exact kP W1.nz hp) hx).mono ?_;rintro e v9 ⟨rfl,o9,H9,oe9,kx⟩;have z9:=kx.size;have Jl:=IB.trans kx (by intro x hx f;(try dsimp only at f);rw[Yv x hx] at f;exact f);go_wp2_with fail;go_end0;exact⟨rfl,o9,(H9.below ρE).same Lt.out.symm,λx hx=>(oe9 x ρa).trans (Yv x hx),Jl.step0 ρE⟩
   | cons x r=>
    have IJ:q<ys.length:=ρo;have hd:=ZT IJ;have Lz:ys[q]?=some x:=ρF;have IX:ys≠[]:=ρR;obtain⟨d,Ul⟩:=Qk.out x ρR;have JB:(a1++[x]).foldl (SS.wake1 now) s3=(a1.foldl (SS.wake1 now) s3).wake1 now x:=by rw[List.foldl_append];rfl
    have LU:fc (a1.foldl (SS.wake1 now) s3).L x=some d:=by rw[j1,e3.1];exact Ul
    have ekd:(a1.foldl (SS.wake1 now) s3).kd=s.kd:=j2.trans e3.2;have W5:(a1.foldl (SS.wake1 now) s3).Wf:=Wf.of_same W3 j1 (λj c hc=>by rw[(j5 j).1];exact W3.ec j c hc) (λp j h=>by rw[j2] at h;exact h) (λj h=>by rw[<- j4];exact h);obtain⟨s5,WB⟩:=Nq (a1.foldl (SS.wake1 now) s3);rw[WB] at H0 JB LU ekd W5;clear j1 j2 j3 j4 j5;obtain⟨Tz,MX,g0,e0,JA,e1,_⟩:=ae.at G0 (λ_=>rfl);have e1:=e1 IX;obtain⟨rfl,-,rfl⟩:=ZV e0;subst e1;obtain⟨cx,gx,bx⟩:=HI.cell G0 q x Lz;obtain⟨Rv,Zl,LG,Xj,-,-,Mp,YG,oS5,-⟩:=id H0;obtain⟨b5,qv5,JF,Mt,E5,-⟩:=Xj.out LU;obtain⟨X5,Qm,Q'0,Ns⟩:=E5;have QF:aj wr b5 qv5 (s5.e x):=X5;obtain⟨p,Sv⟩:=Nq ((s5.e x).c.par);have Mm:bV s5.L p=true:=by rw[<- Sv,Mt];exact W5.tree d (aM LU).1
    obtain⟨t,fp,ht,Xs,MZ,-⟩:=YG.out Mm;have kl:=oz (by rw[Mt];exact(Zl.2.2 d (aM LU).1).2.2.2.1:0<=(s5.e x).c.l0/\0<=(s5.e x).c.l1/\0<=(s5.e x).c.l2) (by rw[Mt];exact(W5.cls d (aM LU).1).2.1.1);have ku:=oz (by rw[Mt];exact(Zl.2.2 d (aM LU).1).2.2.2.2:0<=(s5.e x).c.u0/\0<=(s5.e x).c.u1/\0<=(s5.e x).c.u2) (by rw[Mt];exact(W5.cls d (aM LU).1).2.2);obtain⟨lw,hlw⟩:=Nq (ct (s5.kd p));have rlw:0<=lw/\lw<=Mc:=by rw[<- hlw,ekd];exact pT (QW p)
    obtain⟨lk,hlk2⟩:=Nq (oI (s5.kd p));obtain⟨tt,QV⟩:=Nq ((s5.e x).tot);have rtt:0<=tt/\tt<=Ma:=by have:=Ns.2.2.2.2.2.2.2;omega
    obtain⟨Rj,PN⟩:=Nq ((s5.e x).sh.wake (s5.e x).c.l0 (s5.e x).c.l1 (s5.e x).c.l2 lw tt);have SN:=vE (p:=tt) kl.1 kl.2.1.1 kl.2.2 rlw rtt Ns.2.2.2.1;rw[PN] at SN;obtain⟨Ti,J7⟩:=Nq ((s5.e x).cp.capped (s5.e x).c.u0 (s5.e x).c.u1 (s5.e x).c.u2 now tt);have SL:=uG (p:=tt) ku.1 ku.2.1.1 ku.2.2 okn rtt Ns.2.2.2.2.2.1;rw[J7] at SL;have ocs:(s5.e x).sh.r.ok:=Ns.2.2.2.1;have occ:(s5.e x).cp.r.ok:=Ns.2.2.2.2.2.1;have Tw:s5.wake1 now x=s5.setE x {s5.e x with sh:=Rj,cp:=Ti}:=by unfold SS.wake1;rw[Sv,hlw,QV,PN,J7]
    change Hid _ at IF hq JA IK WB JB Sv JF ht LU Mt hlw hlk2 QV PN J7 Tw ekd Ns;have hfp0:=MZ;clear IX Xj YG Zl MZ Mm Ul;have nby:¬a.BY=b5:=λe=>aB X5 LG e.symm;have nkm:¬a.KM=b5:=λe=>aB X5 Mp e.symm;have nfp:∀y,fp y->¬y=b5:=λy hy e=>by have h1:=hfp0 y hy;rw[e,Qm] at h1;cases h1
    have k000:KO (λy=>y=b5) wr wr:=KO.refl _ _;have k0m:=IB;clear IB;have IB:=k000;clear k000;replace Ss:=Rv.r;have Jv:=((am Δ Θ LG x (z:=Kp) ρm).2.trans ρW);have JC:=((am Γ Θ Mp p (z:=Kp) ρm).2.trans ρU);have IT:=((aj.c2 QF).trans ρQ);have I5:=((aj.c15 QF).trans ρS);go_upto_region 10 with (fail);refine bS (θ8 IB Rv LG QF Mp Xs Q'0 G0) ?_;clear Rr Ss;rintro v1 ⟨F',JE,Nu,JS,Kl,UY,UX,G1⟩ Rr;replace Jv:=((am Δ Θ Nu x (z:=Kp) ρm).2.trans ρW);replace JC:=((am Γ Θ Kl p (z:=Kp) ρm).2.trans ρU);replace IT:=((aj.c2 JS).trans ρQ);replace I5:=((aj.c15 JS).trans ρS);have MH:=af JE;have Kh:=λd os=>((am Δ Θ (Nu.grow d os) x (z:=Kp) ρm).2.trans ρW);have Jh:=λd os=>((aj.c2 (JS.below (ZW _ d os))).trans ρQ);have Jt:=λd os=>((aj.c15 (JS.below (ZW _ d os))).trans ρS);have Ki:=λd os=>((am Γ Θ (Kl.grow d os) p (z:=Kp) ρm).2.trans ρU);refine Wq ?_
    repeat (go_big_quiet_step ((first
      | (go_at_call 156;(with_reducible exact bT (Fj t (s5.kd p) fp _ (UY.below (ZW _ _ _)) lw lk hlw.out hlk2.out))))))
    refine bF (θ8 JE Nu JS Kl UY UX G1 F') ?_;clear Rr;rintro v2 ⟨KJ,Oq,JZ,NX,T02,Td,G2,Iz⟩ Rr;replace Jv:=((am Δ Θ Oq x (z:=Kp) ρm).2.trans ρW);replace JC:=((am Γ Θ NX p (z:=Kp) ρm).2.trans ρU);replace IT:=((aj.c2 JZ).trans ρQ);replace I5:=((aj.c15 JZ).trans ρS);clear MH Kh Jh Jt Ki JE Nu JS Kl UY UX G1;go_wp2_with fail;refine bS (θ8 Iz KJ Oq JZ NX T02 Td G2) ?_;clear Rr;rintro v3 ⟨ID,KK,Qt,J0,MT,T03,Xo,G3⟩ Rr;replace Jv:=((am Δ Θ Qt x (z:=Kp) ρm).2.trans ρW);replace JC:=((am Γ Θ MT p (z:=Kp) ρm).2.trans ρU);replace IT:=((aj.c2 J0).trans ρQ);replace I5:=((aj.c15 J0).trans ρS);have MH:=af KK;have Kh:=λd os=>((am Δ Θ (Qt.grow d os) x (z:=Kp) ρm).2.trans ρW);have Jh:=λd os=>((aj.c2 (J0.below (ZW _ d os))).trans ρQ);have Jt:=λd os=>((aj.c15 (J0.below (ZW _ d os))).trans ρS);have Ki:=λd os=>((am Γ Θ (MT.grow d os) p (z:=Kp) ρm).2.trans ρU);refine Ws 18 (mw ?_)
    repeat (first
     | (refine aj.qsh J0 (.tmp 101) ρr ρr ρr ?_;(try simp only[Act.put,List.setIfInBounds_toArray,List.set_cons_succ,List.set_cons_zero]))
     | (refine aj.qls J0 (.tmp 106) ρr ρr ρr ?_;(try simp only[Act.put,List.setIfInBounds_toArray,List.set_cons_succ,List.set_cons_zero]))
     | (go_big_quiet_step ((first
      | (go_at_call 157;(with_reducible exact bT (vL (s5.e x).sh Rj _ _ _ lw tt _ kl.1 kl.2.1 kl.2.2 rlw rtt ocs PN.out)))))))
    refine bF (θ8 KK Qt J0 MT T03 Xo G3 ID) ?_;clear Rr;rintro v4 ⟨Nh,BY'4,J1,VG,T04,VP,G4,IC⟩ Rr;replace Jv:=((am Δ Θ BY'4 x (z:=Kp) ρm).2.trans ρW);replace JC:=((am Γ Θ VG p (z:=Kp) ρm).2.trans ρU);replace IT:=((aj.c2 J1).trans ρQ);replace I5:=((aj.c15 J1).trans ρS);clear MH Kh Jh Jt Ki KK Qt J0 MT T03 Xo G3;have XB:=J1;have XG:=G4;refine aj.ssh J1 Rj (.tmp 115) (.tmp 113) ρr ρr ρr ρr ?_;intro v5 JO kx zx;have Ln:=Nh.ko kx ρZ;have TD:=BY'4.ko kx ρZ;have KM'5:=VG.ko kx ρZ;have T05:=T04.ko kx (λy hy f=>nfp y hy f);have YZ:=VP.ko kx σF;have G5:=G4.ko kx σi;have IN:KO (λy=>y=b5) wr v5:=IC.trans kx σh;replace Rr:=Ln.r;replace Jv:=((am Δ Θ TD x (z:=Kp) ρm).2.trans ρW);replace JC:=((am Γ Θ KM'5 p (z:=Kp) ρm).2.trans ρU);replace IT:=((aj.c2 JO).trans ρQ);replace I5:=((aj.c15 JO).trans ρS);clear kx zx XB XG J1;simp only[Act.put];go_wp2_with fail;refine bS (θ8 IN Ln TD JO KM'5 T05 YZ G5) ?_;clear Rr;rintro v6 ⟨IQ,Nx,VA,KC,VH,T06,Q'6,G6⟩ Rr;replace Jv:=((am Δ Θ VA x (z:=Kp) ρm).2.trans ρW);replace JC:=((am Γ Θ VH p (z:=Kp) ρm).2.trans ρU);replace IT:=((aj.c2 KC).trans ρQ);replace I5:=((aj.c15 KC).trans ρS);have MH:=af Nx;have Kh:=λd os=>((am Δ Θ (VA.grow d os) x (z:=Kp) ρm).2.trans ρW);have Jh:=λd os=>((aj.c2 (KC.below (ZW _ d os))).trans ρQ);have Jt:=λd os=>((aj.c15 (KC.below (ZW _ d os))).trans ρS);have Ki:=λd os=>((am Γ Θ (VH.grow d os) p (z:=Kp) ρm).2.trans ρU);refine Ws 18 (mw ?_)
    repeat (first
     | (refine aj.qcp KC (.tmp 119) ρr ρr ρr ?_;(try simp only[Act.put,List.setIfInBounds_toArray,List.set_cons_succ,List.set_cons_zero]))
     | (refine aj.qul KC (.tmp 124) ρr ρr ρr ?_;(try simp only[Act.put,List.setIfInBounds_toArray,List.set_cons_succ,List.set_cons_zero]))
     | (go_big_quiet_step ((first
      | (go_at_call 158;(with_reducible exact bT (vT (s5.e x).cp Ti _ _ _ now tt _ ku.1 ku.2.1 ku.2.2 okn rtt occ J7.out)))))))
    refine bF (θ8 Nx VA KC VH T06 Q'6 G6 IQ) ?_;clear Rr;rintro v7 ⟨Rw,BY'7,Nz,KM'7,T07,Q'7,G7,I8⟩ Rr;replace Jv:=((am Δ Θ BY'7 x (z:=Kp) ρm).2.trans ρW);replace JC:=((am Γ Θ KM'7 p (z:=Kp) ρm).2.trans ρU);replace IT:=((aj.c2 Nz).trans ρQ);replace I5:=((aj.c15 Nz).trans ρS);clear MH Kh Jh Jt Ki Nx VA KC VH T06 Q'6 G6;have XB:=Nz;have XG:=G7;refine aj.scp Nz Ti (.tmp 133) (.tmp 131) ρr ρr ρr ρr ?_;intro v8 NA kx zx;have Qe:=Rw.ko kx ρZ;have BY'8:=BY'7.ko kx ρZ;have KM'8:=KM'7.ko kx ρZ;have T08:=T07.ko kx (λy hy f=>nfp y hy f);have Q'8:=Q'7.ko kx σF;have G8:=G7.ko kx σi;have Je:KO (λy=>y=b5) wr v8:=I8.trans kx σh;replace Rr:=Qe.r;replace Jv:=((am Δ Θ BY'8 x (z:=Kp) ρm).2.trans ρW);replace JC:=((am Γ Θ KM'8 p (z:=Kp) ρm).2.trans ρU);replace IT:=((aj.c2 NA).trans ρQ);replace I5:=((aj.c15 NA).trans ρS);have H8:=H0.entTo (i:=x) (x:={s5.e x with sh:=Rj,cp:=Ti}) LU.out JF.out Mt.out Je (λk e=>.inl (by rw[e];exact Qm)) ⟨NA,Qm,Q'8,⟨Ns.out.1,Ns.out.2.1,Ns.out.2.2.1,SN.1,SN.2,SL.1,SL.2,Ns.out.2.2.2.2.2.2.2⟩⟩;have k0e:=k0m.trans Je (by intro z hz e;show TG.mine _;(try dsimp only at e);rw[<- Yv z hz,e,Qm];simp[TG.mine]);clear kx zx XB XG;go_wp2;go_roundw;case rel=>exact⟨a1++[x],r,by rw[ZL,hq.out];go_num,by rw[IF.out];simp,by rw[JB.out,Tw.out];exact H8.below ρE,ae.below G8 ρE,k0e.step0 ρE⟩
    case measure=>exact ξc
theorem aj.fr {w:ϖ} {b:Nat} {qv:ϗ} {x:EN} (h:aj w b qv x):∀i,w.frozen? ⟨b,i,none⟩=false:=ah.frozen h
theorem aj.set15 {w:ϖ} {b:Nat} {qv:ϗ} {x:EN} (h:aj w b qv x)(t:Int):aj (w.setCell ⟨b,15,none⟩ t) b qv {x with tot:=t}:=by have:=ah.set_same (w:=w) (B:=b) (cs:=nX x qv) (cs':=nX {x with tot:=t} qv) (t:=244) (i:=15) (v:=t) h ρh;exact this
theorem tc (n:Int)(s:SS)(i:Int):(s.take1 n i).L=s.L/\(s.take1 n i).kd=s.kd/\(s.take1 n i).A=s.A/\(s.take1 n i).lv=s.lv/\(∀j,((s.take1 n i).e j).c=(s.e j).c/\((s.take1 n i).e j).q=(s.e j).q/\((s.take1 n i).e j).du=(s.e j).du):=by refine⟨rfl,rfl,rfl,rfl,λj=>?_⟩;unfold SS.take1 SS.setE aw;simp only[];split<;>rename_i e<;>first|(rw[e];exact⟨rfl,rfl,rfl⟩)|exact⟨rfl,rfl,rfl⟩
theorem fu (n:Int):∀(xs:List Int)(s:SS),(xs.foldl (SS.take1 n) s).L=s.L/\(xs.foldl (SS.take1 n) s).kd=s.kd/\(xs.foldl (SS.take1 n) s).A=s.A/\(xs.foldl (SS.take1 n) s).lv=s.lv/\(∀j,((xs.foldl (SS.take1 n) s).e j).c=(s.e j).c/\((xs.foldl (SS.take1 n) s).e j).q=(s.e j).q/\((xs.foldl (SS.take1 n) s).e j).du=(s.e j).du)
 | [],s=>⟨rfl,rfl,rfl,rfl,λ_=>⟨rfl,rfl,rfl⟩⟩
 | x::r,s=>by obtain⟨h1,h2,h3,h4,h5⟩:=fu n r (s.take1 n x);obtain⟨g1,g2,g3,g4,g5⟩:=tc n s x;exact⟨h1.trans g1,h2.trans g2,h3.trans g3,h4.trans g4,λj=>⟨(h5 j).1.trans (g5 j).1,(h5 j).2.1.trans (g5 j).2.1,(h5 j).2.2.trans (g5 j).2.2⟩⟩
theorem qN {n:Int} {s:SS} {i j:Int} (h:j≠i):(s.take1 n i).e j=s.e j:=by unfold SS.take1 SS.setE aw;exact ZI h
theorem gh {n:Int}:∀{xs:List Int} {s:SS} {j:Int},j ∉ xs->(xs.foldl (SS.take1 n) s).e j=s.e j
 | [],_,_,_=>rfl
 | x::r,s,j,h=>by simp at h;show (r.foldl (SS.take1 n) (s.take1 n x)).e j=_;rw[gh h.2,qN h.1]
theorem Wf.due {s:SS} (h:s.Wf) {i len:Int} {b:Bool} {c:CD} (hc:fc s.L i=some c)(hl:c.lf=true):(s.due i len b).Wf/\(s.due i len b).L=s.L/\(s.due i len b).A=s.A/\(∀j,((s.due i len b).e j).c=(s.e j).c/\((s.due i len b).e j).q=(s.e j).q):=by
 have ee:∀(l:LF) j,((s.duesTo i l).e j).c=(s.e j).c/\((s.duesTo i l).e j).q=(s.e j).q:=λl j=>ηL
 unfold SS.due;split
 ·simp only[];have W2:=λ(l:LF)=>Wf.duesTo (l:=l) h hc hl;split
  ·refine⟨Wf.of_same (W2 _) rfl (W2 _).ec (λ_ _ h=>h) (λj hj=>?_),rfl,rfl,ee _⟩;have Un:aJ (s.duesTo i _).lv i none j≠none:=hj;unfold aJ at Un;split at Un
   ·exact ax rfl Un
   ·exact Un
  ·exact⟨W2 _,rfl,rfl,ee _⟩
 ·exact⟨h,rfl,rfl,λ_=>⟨rfl,rfl⟩⟩
theorem Wf.sleeps:∀(ys:List Int) {s:SS},s.Wf->(ys.foldl SS.sleep1 s).Wf/\(ys.foldl SS.sleep1 s).L=s.L
 | [],_,h=>⟨h,rfl⟩
 | y::r,s,h=>by obtain⟨h1,h2⟩:=Wf.sleeps r (Wf.sleep1 h y);exact⟨h1,h2.trans (eK s y).1⟩
theorem Wf.sleep {s:SS} (h:s.Wf)(i:Int)(up:List Int):(s.sleep i up).Wf/\(s.sleep i up).L=s.L:=by
 unfold SS.sleep;split
 ·exact Wf.sleeps _ (Wf.of_same h rfl h.ec (λ_ _ h=>h) (λ_ h=>h))
 ·exact⟨h,rfl⟩
theorem kQ {s:SS} {now i:Int} {b:Bool} {up:List Int} {p:PK} {r:List PK} (hq:(s.e i).q=p::r):s.take now i b up=(if (((up.foldl (SS.take1 p.len) (({s with clk:=now}:SS).setE i {s.e i with q:=r})).due i p.len b).e i).q=[] then ((up.foldl (SS.take1 p.len) (({s with clk:=now}:SS).setE i {s.e i with q:=r})).due i p.len b).sleep i up else (up.foldl (SS.take1 p.len) (({s with clk:=now}:SS).setE i {s.e i with q:=r})).due i p.len b).settle up:=by unfold SS.take;simp only[hq,aZ,List.tail_cons]
theorem vH {s:SS} {i:Int} {up:List Int} (h:dz (s.e i).c=false):s.sleep i up=s:=by unfold SS.sleep;rw[ZI (by simp[h])]
theorem vD {c:CH} {p:Int} (oc:c.ok)(ot:aq c.t):(c.took p).ok/\(0<=(c.took p).t/\(c.took p).t<=Ma):=by
 unfold CH.took;split
 ·exact⟨oc,RN.time_rng oc p⟩
 ·exact⟨oc,ot⟩
theorem wy {c:CH} {p:Int} (oc:c.ok)(ot:aq c.t):(c.fit p).ok/\(0<=(c.fit p).t/\(c.fit p).t<=Ma):=by
 unfold CH.fit;split
 ·have:=RN.reach_rng oc (p*65536);exact⟨oc,by simp only[];omega⟩
 ·exact⟨oc,ot⟩
theorem aj.popq {w:ϖ} {b:Nat} {qv:ϗ} {x:EN} {r:List PK} (h:aj w b qv x):aj w b qv {x with q:=r}:=h
theorem Cs (o:aT)(a:Ad)(s:SS)(now:Int)(w:ϖ)(H:ar o w a s)(W:s.Wf)(N4:¬now<s.clk/\¬4611686018427387904<now)(htot:∀i c,fc s.L i=some c->(s.e i).tot<=1099511627776)
  (hch0:∀i x,SS.Choose {s with clk:=now} now (some (i,x))->∃c xs p r,fc s.L i=some c/\c.lf=true/\(s.e i).q=p::r/\bQ s.L i xs/\xs.length<=1000/\xs.Nodup/\(dz c=true->bM s.L i xs/\xs≠[]/\s.A.is i=true/\∀y ∈ 0::xs.tail,s.A.K y≠[])):Calls Ψ 129 #[a.S,now] w λe w'=>(∃i x p r c xs,SS.Choose {s with clk:=now} now (some (i,x))/\fc s.L i=some c/\(s.e i).q=p::r/\bQ s.L i xs/\e=ϰ (χ #[φ #[ι ε i,p.id,ι ε p.len,ι ω p.h0,ι ω p.h1,ι ω p.h2,ι ω p.h3,β x],fJ])/\∃o',ar o' w' a (s.take now i x xs)/\(∀y,y<w.heap.size->o' y=o y)/\KO (λx=>(o x).mine) w w')\/
   (SS.Choose {s with clk:=now} now none/\e=ϰ (χ #[φ #[Kz,Ky,Kz,eN,eN,eN,eN,dI],dI])/\∃o',ar o' w' a {s with clk:=now}/\(∀y,y<w.heap.size->o' y=o y)/\KO (λx=>(o x).mine) w w'):=by
 refine δV ?_;intro H0 S' MS Yw s0 Ka W0;have Sd:s0.L=s.L/\s0.e=s.e/\s0.A=s.A:=by rw[<- Ka];exact⟨rfl,rfl,rfl⟩
 have Qp:=S'.r;go_in;go_upto_region 1 with (fail);refine Jw (θ2 (Ks (λ_=>False) w) S') (λv=>ah v w #[Kz,Ky,Kz,eN,eN,eN,eN,dI] 253) ρB ?_;rintro v1 R1 ⟨F',JE⟩;replace Qp:=JE.r;replace rR:=R1.r;have H1:=H0.below F'.toBelow;have z1:=R1.size;go_wp2_with (go_at_call 126;refine(ww (o.more w .no) a s now v1 H1 N4.1 N4.2).mono ?_;rintro e v2 ⟨rfl,H2,kx⟩;rw[Ka] at H2;have RS:¬w=a.S:=(λe=>by have:=S'.size;omega);have R2:=R1.ko kx RS;have z2:=kx.size;replace Ka:=ag Ka);refine(wn (o.more w .no) a s0 now v2 H2 W0).mono ?_;rintro e v3 ⟨i,NB,ok,rfl,Jq,ky⟩;obtain⟨H3,R3⟩:=Mw ky (θ2 H2 R2);have z3:=ky.size;have ID:KO (λx=>(o x).mine) w v3:=(((F'.mono (λ_ _ f=>f.elim):KO (λx=>x=a.S) w v1).trans kx σh).trans (KO.of_below (F:=λ_=>False) ky) (λ_ _ f=>f.elim)).mono τ9;clear Qp JE R1 H1 H2 R2 kx ky F' S' H0;have rR:=R3.r;replace Jq:=ag Jq;rcases ok with _|_
 ·have NF:SS.Choose s0 now none:=by rcases Jq.out with h|h;(· cases h.1);(· exact h.2.2.2)
  replace NF:=ag NF;go_wp2_with fail;refine eu v3 (λx=>x=w.heap.size) (λv=>ah v w #[Kz,Ky,Kz,eN,eN,eN,eN,dI] 253) ρB (λ_ kx=>kx) ?_;rintro v4 R4 kx;replace rR:=R4.r;refine ZO (v:=χ #[φ #[Kz,Ky,Kz,eN,eN,eN,eN,dI],dI]) τt rfl ?_;exact .inr ⟨Ka.out ▸ NF.out,rfl,_,(H3.ko kx (λx e=>by (try dsimp only at e);rw[e];exact Yw _ (ZR _))).same Ka.out.symm,MS,ID.trans kx σw⟩
 have KD:SS.Choose s0 now (some (i,NB)):=by rcases Jq.out with h|h;(· exact h.2);(· cases h.1)
 obtain⟨c,xs,p,r,hc,JK,hq,hu,QX,MO,PN⟩:=hch0 i NB (Ka.out ▸ KD);rw[<- Sd.1] at hc hu PN;rw[<- Sd.2.1] at hq;rw[<- Sd.2.2] at PN;replace KD:=ag KD;obtain⟨KK,KA,Qt,E'3,-,-,-,-,oS,oT,oM,SH,SJ⟩:=id H3;obtain⟨b,qv,hb,Jj,E0,-⟩:=E'3.out hc;obtain⟨X0,ob,Q0,ok0⟩:=E0;have J0:aj v3 b qv (s0.e i):=X0;have QP:(s0.e i).c.lf=true:=by rw[Jj];exact JK
 unfold dQ at Q0;rw[ZP QP,hq] at Q0;obtain⟨Q,OD,rfl,Q3,ND⟩:=Q0;have Qk:∀y ∈ xs,∃c,fc s0.L y=some c:=eA hu;have KE:1<=p.len/\p.len<=16384:=by obtain⟨R,S,f,ps,k0,k1,k2,k3,k4,k5,B',G,JX,IS,_⟩:=id Q3;exact IS p ρp
 have lB:=((am Δ Θ Qt i (z:=Kp) ρm).2.trans (by rw[hb];try rfl));have lX:=aj.c0 J0;have Qp:=KK.r;change Hid _ at hc Jj hb hq ND hu Qk PN Sd ok0;clear E'3 KA Qt;clear rR;go_wp2_with fail;refine(Gn Q _ _ p r OD v3 Q3).mono ?_;rintro e v4 ⟨rfl,QA4,kx⟩;have nRq:¬OD w:=λf=>by have:=ND.out _ f;rw[Yw _ (ZR _)] at this;cases this
 have R4:=R3.ko kx nRq;have J1:=J0.ko kx τc;have H4:=H3.entTo (x:={s0.e i with q:=r}) hc.out hb.out Jj.out kx (λy f=>.inr (ND.out y f)) ⟨aj.popq J1,ob,by unfold dQ;rw[ZP QP];exact⟨Q,OD,rfl,QA4,ND.out⟩,ok0.out⟩;have IC:=ID.trans kx σH;have z4:=kx.size;obtain⟨s1,Ju⟩:=Nq (s0.setE i {s0.e i with q:=r});rw[Ju] at H4;have e1:s1.L=s0.L/\s1.A=s0.A/\s1.lv=s0.lv/\s1.kd=s0.kd/\(∀j,(s1.e j).c=(s0.e j).c/\(s1.e j).tot=(s0.e j).tot)/\(s1.e i).q=r:=by
  rw[<- Ju];refine⟨rfl,rfl,rfl,rfl,λj=>?_,?_⟩
  ·unfold SS.setE aw;simp only[];split<;>rename_i e<;>first|(rw[e];exact⟨rfl,rfl⟩)|exact⟨rfl,rfl⟩
  ·unfold SS.setE aw;simp
 have W1:s1.Wf:=Wf.of_same W0 e1.1 (λj c h=>by rw[(e1.2.2.2.2.1 j).1];exact W0.ec j c h) (λp j h=>by rw[e1.2.2.2.1] at h;exact h) (λj h=>by rw[e1.2.2.1] at h;exact h);obtain⟨Nh,Kt,-⟩:=id H4;clear Qp lB lX KK J0 J1 H3 R3 ID kx Q3 QA4;change Hid _ at e1 Ju;go_upto_region 8 with (fail);refine Jw (θ4 IC H4 R4 Nh) (λv=>ah v (v4) (gG p.id p.len p.h0 p.h1 p.h2 p.h3) 50) ρB ?_;rintro v5 TN ⟨IN,H5,R5,Ln⟩;replace rR:=R5.r;replace Qp:=Ln.r;replace Ri:=TN.r;have z5:=IN.size;have NR:=H5.2.1;go_wp2_with fail;refine(Aa a.T a.M s1.L i xs v5 NR (by rw[e1.out.1];exact hu.out) QX).mono ?_;rintro e v6 ⟨u,rfl,G6,kx⟩;obtain⟨H6,R6,TO⟩:=Mw kx (θ3 H5 R5 TN);have z6:=kx.size;have IQ:=IN.step0 kx;have zp:=TN.size;obtain⟨oa,oc,rfl⟩:=G6.slice;clear H5 R5 TN Ln NR kx IN Qp rR Ri IC H4 R4 Kt Nh;go_wp2_with fail;go_loopw [55] (λk wr=>∃(a1 b1:List Int),k=ι ε (a1.length:Nat)/\xs=a1++b1/\ar (o.more w .no) wr a (a1.foldl (SS.take1 p.len) s1)/\HI wr v5 (ζ oa xs.length oc) xs/\ah wr w #[Kz,Ky,Kz,eN,eN,eN,eN,dI] 253/\ah wr v4 (gG p.id p.len p.h0 p.h1 p.h2 p.h3) 50/\KO (λx=>(o x).mine) w wr) (λk _=>xs.length - (intOf k).toNat);case atStart=>exact⟨[],xs,rfl,rfl,H6,G6,R6,TO,IQ⟩
 case round=>
  obtain⟨a1,b1,rfl,IF,H0,G0,R0,YW,IB⟩:=hrel;clear H6 G6 R6 TO IQ;have IK:a1.length+b1.length=xs.length:=by rw[IF,ZL]
  obtain⟨q,J2⟩:=Nq a1.length;rw[J2] at IK ⊢;have zw:=IB.size;obtain⟨j1,j2,j3,j4,j5⟩:=fu p.len a1 s1;cases b1 with
  | nil=>
   have IJ:¬q<xs.length:=ρo;have hd:=ZF IJ;have PO:a1=xs:=ρN;rw[PO] at H0 j1 j2 j3 j4 j5;change Hid _ at IK J2;clear IF PO;have W2:(xs.foldl (SS.take1 p.len) s1).Wf:=Wf.of_same W1 j1 (λj c h=>by rw[(j5 j).1];exact W1.ec j c h) (λp j h=>by rw[j2] at h;exact h) (λj h=>by rw[j4] at h;exact h);have hc2:fc (xs.foldl (SS.take1 p.len) s1).L i=some c:=by rw[j1,e1.out.1];exact hc.out
   have Kk:((xs.foldl (SS.take1 p.len) s1).e i).q=r:=(j5 i).2.1.trans e1.out.2.2.2.2.2;have Lh:(xs.foldl (SS.take1 p.len) s1).L=s0.L:=j1.trans e1.out.1;have RD:(xs.foldl (SS.take1 p.len) s1).A=s0.A:=j3.trans e1.out.2.1;have OJ:((xs.foldl (SS.take1 p.len) s1).e i).c=c:=W2.ec i c hc2;have hs2e:xs.foldl (SS.take1 p.len) s1=xs.foldl (SS.take1 p.len) (({s with clk:=now}:SS).setE i {s.e i with q:=r}):=by rw[<- Ju.out,<- Ka.out]
   have Sz:=kQ (now:=now) (b:=NB) (up:=xs) (show (s.e i).q=p::r by rw[<- Sd.out.2.1];exact hq.out);rw[<- hs2e] at Sz;obtain⟨s2,Ja⟩:=Nq (xs.foldl (SS.take1 p.len) s1);rw[Ja] at H0 W2 hc2 Kk Lh RD OJ Sz;clear j1 j2 j3 j4 j5 hs2e;obtain⟨W3,hL3,Ue,he3⟩:=Wf.due (len:=p.len) (b:=NB) W2 hc2 JK;have hfin0:=Sz;have on4:(o.more w .no) v4.heap.size=.no:=Yw _ ρa;have on1:(o.more w .no) w.heap.size=.no:=Yw _ (ZR _);change Hid _ at Sz Kk Lh RD OJ Ja hL3 Ue he3;clear hfin0 e1 Ju G0;have Ri:=YW.r;go_wp2_with fail;refine(Cq (o.more w .no) a s2 i p.len NB c b wr H0 W2 hc2 JK hb.out ⟨by omega,by omega⟩).mono ?_;rintro e v20 ⟨rfl,o20,H20,oe20,kx⟩;have R20:=R0.ko kx (λf=>f on1);have VN:=YW.ko kx (λf=>f on4);have Uy:=IB.trans kx (λx hx f=>by (try dsimp only at f);rw[MS x hx] at f;exact f);have z20:=kx.size;have UG:=(oe20 _ R0.size).trans on1;have WQ:=(oe20 _ YW.size).trans on4;have UK:∀x,x<w.heap.size->o20 x=o x:=λx hx=>(oe20 x ρa).trans (MS x hx);clear kx Ri R0 YW H0 IB;have hc3:fc (s2.due i p.len NB).L i=some c:=by rw[hL3.out];exact hc2
   obtain⟨S'20,-,-,E'20,-⟩:=id H20;obtain⟨b2,qv2,IW,hcc3,⟨X0,ob2,Q0,-⟩,-⟩:=E'20.out hc3;have eb:=iK (hb.out.symm.trans IW);subst eb;have X'20:aj v20 b qv2 ((s2.due i p.len NB).e i):=X0;unfold dQ at Q0;rw[ZP (by rw[hcc3];exact JK),(he3.out i).2,Kk.out] at Q0;obtain⟨Q2,fp2,rfl,Q20,-⟩:=Q0;have lX:=aj.c0 X'20;have zX:=X'20.size;obtain⟨n,hn⟩:=Nq r.length;clear E'20 X0;go_wp2_with fail;refine(sJ Q2 _ _ r fp2 _ Q20).mono ?_;rintro e u ⟨rfl,rfl⟩;rw[hn];by_cases h0:n=0
   rotate_left
   ·have IG:((n:Int)==0)=false:=by rw[ZN];omega
    have Lt:s.take now i NB xs=(s2.due i p.len NB).settle xs:=by rw[Sz.out,ZI (λe=>h0 (by rw[<- hn,<- Kk.out,<- (he3.out i).2,e];rfl))]
    change Hid _ at Lt hn;go_wp2_with fail;refine(jh o20 a (s2.due i p.len NB) i xs _ H20 W3 (by rw[hL3.out,Lh.out];exact hu.out) QX).mono ?_;rintro e v21 ⟨rfl,o21,Xm,SK,kx⟩;have R21:=R20.ko kx (λf=>f UG);have VO:=VN.ko kx (λf=>f WQ);have NH:=Uy.trans kx (λx hx f=>by (try dsimp only at f);rw[UK x hx] at f;exact f);have z21:=kx.size;have UH:=(SK _ R20.size).trans UG;clear kx;have rR:=R21.r;have Ri:=VO.r;have nRP:¬w.heap.size=v4:=ρa;go_wp2_with fail;refine eu v21 (λx=>x=w.heap.size) (λv=>ah v w #[ι ε i,p.id,ι ε p.len,ι ω p.h0,ι ω p.h1,ι ω p.h2,ι ω p.h3,β NB] 253) ρB (λ_ kx=>kx) ?_;rintro OT R22 kx;replace rR:=R22.r;refine ZO (v:=χ #[φ #[ι ε i,p.id,ι ε p.len,ι ω p.h0,ι ω p.h1,ι ω p.h2,ι ω p.h3,β NB],fJ]) τt rfl ?_;exact .inl ⟨i,NB,p,r,c,xs,Ka.out ▸ KD.out,by rw[<- Sd.out.1];exact hc.out,by rw[<- Sd.out.2.1];exact hq.out,by rw[<- Sd.out.1];exact hu.out,rfl,o21,(Xm.ko kx (λx e=>by (try dsimp only at e);rw[e];exact UH)).same Lt.out.symm,λx hx=>(SK x ρa).trans (UK x hx),NH.trans kx σw⟩
   subst h0;have Mn:r=[]:=List.length_eq_zero_iff.1 hn;have Lt:s.take now i NB xs=((s2.due i p.len NB).sleep i xs).settle xs:=by rw[Sz.out,ZP (by rw[(he3.out i).2,Kk.out];exact Mn)]
   obtain⟨W4,hL4⟩:=Wf.sleep W3 i xs;change Hid _ at Lt hn Mn hL4;rcases Oa:dz c with _|_
   ·have hns:(s2.due i p.len NB).sleep i xs=s2.due i p.len NB:=vH (by rw[(he3.out i).1,OJ.out];exact Oa);change Hid _ at hns Oa;go_wp2_with fail;refine(rN o20 a _ i _ H20 (λd hd=>by rw[hc3] at hd;cases hd;exact Oa.out)).mono ?_;rintro e v21 ⟨rfl,kx⟩;have Xm:=(H20.below kx).same hns.out.symm;obtain⟨R21,VO,NH⟩:=Mw kx (θ3 R20 VN Uy);have z21:=kx.size;have UH:=UG;have nP21:=WQ;have ow21:=UK;clear kx lX;go_wp2_with fail;refine(jh o20 a ((s2.due i p.len NB).sleep i xs) i xs _ Xm W4 (by rw[hL4.out,hL3.out,Lh.out];exact hu.out) QX).mono ?_;exact ξh
   ·obtain⟨hp,Kx,hi,hK⟩:=PN.out Oa;change Hid _ at Oa hi hK;go_wp2_with fail;refine(zJ o20 a (s2.due i p.len NB) i xs c _ H20 W3 hc3 Oa.out JK (by rw[Ue.out,RD.out];exact hi.out) (by rw[hL3.out,Lh.out];exact hp) Kx QX MO (by rw[Ue.out,RD.out];exact hK.out)).mono ?_;rintro e v21 ⟨rfl,o21,Xm,SK,kx⟩;have R21:=R20.ko kx (λf=>f UG);have VO:=VN.ko kx (λf=>f WQ);have NH:=Uy.trans kx (λx hx f=>by (try dsimp only at f);rw[UK x hx] at f;exact f);have z21:=kx.size;have UH:=(SK _ R20.size).trans UG;have nP21:=(SK _ VN.size).trans WQ;have ow21:∀x,x<w.heap.size->o21 x=o x:=λx hx=>(SK x ρa).trans (UK x hx);clear kx lX;go_wp2_with fail;refine(jh o21 a ((s2.due i p.len NB).sleep i xs) i xs _ Xm W4 (by rw[hL4.out,hL3.out,Lh.out];exact hu.out) QX).mono ?_;exact ξh
  | cons x r2=>
   have IJ:q<xs.length:=ρo;have hd:=ZT IJ;have Lz:xs[q]?=some x:=by rw[IF,<- J2];simp
   have IX:xs≠[]:=ρR;obtain⟨d,Ul⟩:=Qk.out x ρR;have JB:(a1++[x]).foldl (SS.take1 p.len) s1=(a1.foldl (SS.take1 p.len) s1).take1 p.len x:=by rw[List.foldl_append];rfl
   have LU:fc (a1.foldl (SS.take1 p.len) s1).L x=some d:=by rw[j1,e1.out.1];exact Ul
   have hxn:x ∉ a1:=by have:=MO;rw[IF] at this;exact λe=>(List.nodup_append.1 this).2.2 x e x ρp rfl
   have QV:((a1.foldl (SS.take1 p.len) s1).e x).tot<=1099511627776:=by rw[gh hxn,(e1.out.2.2.2.2.1 x).2,Sd.out.2.1];exact htot x d (by rw[<- Sd.out.1];exact Ul)
   obtain⟨s5,WB⟩:=Nq (a1.foldl (SS.take1 p.len) s1);rw[WB] at H0 JB LU QV;clear j1 j2 j3 j4 j5;obtain⟨Tz,MX,g0,e0,JA,e1',_⟩:=ae.at G0 (λ_=>rfl);have e1':=e1' IX;obtain⟨rfl,-,rfl⟩:=ZV e0;subst e1';obtain⟨cx,gx,bx⟩:=HI.cell G0 q x Lz;obtain⟨Rv,Zl,LG,Xj,-,-,Mp,YG,oS5,-⟩:=id H0;obtain⟨b5,qv5,JF,Mt,E5,-⟩:=Xj.out LU;obtain⟨X5,Qm,Q0,Ns⟩:=E5;have QF:aj wr b5 qv5 (s5.e x):=X5;obtain⟨tt,WF⟩:=Nq ((s5.e x).tot);have rtt:0<=tt/\tt<=1099511627776:=by rw[<- WF];exact⟨Ns.2.2.2.2.2.2.2.1,QV⟩
   obtain⟨t1,QU⟩:=Nq (tt+p.len);have rt1:0<=t1/\t1<=2199023255552:=ρa;have rt2:0<=t1/\t1<=Ma:=ρa;have Tw:IntKind.u64.wrap p.len=p.len:=ZZ _ ⟨by omega,by omega⟩;have Yn:IntKind.u64.wrap (tt+p.len)=t1:=by rw[QU];exact ZZ _ ⟨by omega,by omega⟩
   obtain⟨Rj,WD⟩:=Nq ((s5.e x).sh.took t1);obtain⟨Ti,Wg⟩:=Nq ((s5.e x).cp.fit t1);have SN:Rj.ok/\(0<=Rj.t/\Rj.t<=Ma):=by rw[<- WD];exact vD Ns.2.2.2.1 Ns.2.2.2.2.1
   have SL:Ti.ok/\(0<=Ti.t/\Ti.t<=Ma):=by rw[<- Wg];exact wy Ns.2.2.2.2.2.1 Ns.2.2.2.2.2.2.1
   have ocs:(s5.e x).sh.r.ok:=Ns.2.2.2.1;have occ:(s5.e x).cp.r.ok:=Ns.2.2.2.2.2.1;have ht2:s5.take1 p.len x=s5.setE x {s5.e x with tot:=t1,sh:=Rj,cp:=Ti}:=by unfold SS.take1;rw[WF,QU,WD,Wg]
   have nR5:¬w=b5:=dV R0 X5 ρf;have nP5:¬v4=b5:=dV YW X5 ρf;have nby:¬a.BY=b5:=λe=>aB X5 LG e.symm;have k0m:=IB;clear IB;have IB:KO (λy=>y=b5) wr wr:=KO.refl _ _;change Hid _ at IF J2 JA IK WB JB JF LU Mt WF QU WD Wg ht2 Ns;clear IX Xj YG Zl Ul QV hxn Mp;have Qp:=Rv.r;have Jv:=((am Δ Θ LG x (z:=Kp) ρm).2.trans ρW);have rR:=R0.r;have Ri:=YW.r;have IT:=((aj.c15 QF).trans σ2);have I5:=(aj.fr QF);go_upto_region 12 with (fail);refine Zw (θ8 IB Rv LG QF Q0 G0 R0 YW) ?_;rintro JR ⟨Jn,VQ,Rm,Sa,Qz,Qc,LH,VK⟩;replace Qp:=VQ.r;replace Jv:=((am Δ Θ Rm x (z:=Kp) ρm).2.trans ρW);replace rR:=LH.r;replace Ri:=VK.r;replace IT:=((aj.c15 Sa).trans σ2);replace I5:=(aj.fr Sa);have MH:=af VQ;have Kh:=λd os=>((am Δ Θ (Rm.grow d os) x (z:=Kp) ρm).2.trans ρW);have Jh:=λd os=>((aj.c15 (Sa.below (ZW _ d os))).trans σ2);have Jt:=λd os=>(aj.fr (Sa.below (ZW _ d os)));have qR:=af LH;have Rh:=af VK;refine Ws 10 (gw ?_);refine Zq (θ8 VQ Rm Sa Qz Qc LH VK Jn) ?_;rintro Mj ⟨S'12,Xe,VU,Q12,Ou,QA,PB12,Jk⟩;replace Qp:=S'12.r;replace Jv:=((am Δ Θ Xe x (z:=Kp) ρm).2.trans ρW);replace rR:=QA.r;replace Ri:=PB12.r;replace IT:=((aj.c15 VU).trans σ2);replace I5:=(aj.fr VU);clear MH Kh Jh Jt qR Rh VQ Rm Sa Qz Qc LH VK;have XB:=VU;have XG:=Ou;go_wp2_with fail;refine gX Mj (λy=>y=b5) (λv=>aj v b5 qv5 {s5.e x with tot:=t1}) (aj.set15 VU t1) (λ_ kx=>θ7 (Jk.trans kx σh) (S'12.ko kx ρt) (Xe.ko kx ρt) (Q12.ko kx σF) (Ou.ko kx σi) (QA.ko kx ρt) (PB12.ko kx ρt)) ?_;rintro NO X'13 ⟨JM,S'13,Xf,Za,UU,R13,PB13⟩;replace Qp:=S'13.r;replace Jv:=((am Δ Θ Xf x (z:=Kp) ρm).2.trans ρW);replace rR:=R13.r;replace Ri:=PB13.r;replace IT:=(aj.c15 X'13);clear XB XG;refine Zw (θ8 JM S'13 Xf Za UU R13 PB13 X'13) ?_;rintro RW ⟨Mh,VR,Ro,Q14,YK,R14,VL,TW⟩;replace Qp:=VR.r;replace Jv:=((am Δ Θ Ro x (z:=Kp) ρm).2.trans ρW);replace rR:=R14.r;replace Ri:=VL.r;replace IT:=(aj.c15 TW);have MH:=af VR;have Kh:=λd os=>((am Δ Θ (Ro.grow d os) x (z:=Kp) ρm).2.trans ρW);have qR:=af R14;have Rh:=af VL;have Jh:=λd os=>(aj.c15 (TW.below (ZW _ d os)));refine Ws 12 (mw ?_)
   repeat (first
    | (refine aj.qsh TW (.tmp 78) ρr ρr ρr ?_;(try simp only[Act.put,List.setIfInBounds_toArray,List.set_cons_succ,List.set_cons_zero]))
    | (go_big_quiet_step ((first
     | (go_at_call 162;(with_reducible exact bT (vK (s5.e x).sh Rj t1 _ rt2 ocs WD.out)))))))
   refine Zq (θ8 VR Ro Q14 YK R14 VL TW Mh) ?_;rintro v15 ⟨S'15,Xg,Q15,G15,R15,PB15,VV,OR⟩;replace Qp:=S'15.r;replace Jv:=((am Δ Θ Xg x (z:=Kp) ρm).2.trans ρW);replace rR:=R15.r;replace Ri:=PB15.r;replace IT:=(aj.c15 VV);clear MH Kh qR Rh Jh VR Ro Q14 YK R14 VL TW;have XB:=VV;have XG:=G15;refine aj.ssh VV Rj (.tmp 86) (.tmp 84) ρr ρr ρr ρr ?_;intro v16 X'16 kx zx;have S'16:=S'15.ko kx ρt;have Xh:=Xg.ko kx ρt;have Q16:=Q15.ko kx σF;have G16:=G15.ko kx σi;have R16:=R15.ko kx ρt;have PB16:=PB15.ko kx ρt;have Uw:KO (λy=>y=b5) wr v16:=OR.trans kx σh;replace Qp:=S'16.r;replace Jv:=((am Δ Θ Xh x (z:=Kp) ρm).2.trans ρW);replace rR:=R16.r;replace Ri:=PB16.r;replace IT:=(aj.c15 X'16);clear kx zx XB XG VV;simp only[Act.put];go_wp2_with fail;refine Zw (θ8 Uw S'16 Xh Q16 G16 R16 PB16 X'16) ?_;rintro v17 ⟨Ux,VS,Rp,Q17,G17,R17,VM,TX⟩;replace Qp:=VS.r;replace Jv:=((am Δ Θ Rp x (z:=Kp) ρm).2.trans ρW);replace rR:=R17.r;replace Ri:=VM.r;replace IT:=(aj.c15 TX);have MH:=af VS;have Kh:=λd os=>((am Δ Θ (Rp.grow d os) x (z:=Kp) ρm).2.trans ρW);have qR:=af R17;have Rh:=af VM;have Jh:=λd os=>(aj.c15 (TX.below (ZW _ d os)));refine Ws 12 (mw ?_)
   repeat (first
    | (refine aj.qcp TX (.tmp 90) ρr ρr ρr ?_;(try simp only[Act.put,List.setIfInBounds_toArray,List.set_cons_succ,List.set_cons_zero]))
    | (go_big_quiet_step ((first
     | (go_at_call 163;(with_reducible exact bT (jT (s5.e x).cp Ti t1 _ rt2 occ Wg.out)))))))
   refine Zq (θ8 VS Rp Q17 G17 R17 VM TX Ux) ?_;rintro v18 ⟨S'18,Xi,Q18,G18,R18,PB18,Zo,k018⟩;replace Qp:=S'18.r;replace Jv:=((am Δ Θ Xi x (z:=Kp) ρm).2.trans ρW);replace rR:=R18.r;replace Ri:=PB18.r;replace IT:=(aj.c15 Zo);clear MH Kh qR Rh Jh VS Rp Q17 G17 R17 VM TX;have XB:=Zo;have XG:=G18;refine aj.scp Zo Ti (.tmp 98) (.tmp 96) ρr ρr ρr ρr ?_;intro v19 X'19 kx zx;have S'19:=S'18.ko kx ρt;have BY'19:=Xi.ko kx ρt;have Zd:=Q18.ko kx σF;have G19:=G18.ko kx σi;have R19:=R18.ko kx ρt;have YX:=PB18.ko kx ρt;have WL:KO (λy=>y=b5) wr v19:=k018.trans kx σh;replace Qp:=S'19.r;replace Jv:=((am Δ Θ BY'19 x (z:=Kp) ρm).2.trans ρW);replace rR:=R19.r;replace Ri:=YX.r;replace IT:=(aj.c15 X'19);have H19:=H0.entTo (i:=x) (x:={s5.e x with tot:=t1,sh:=Rj,cp:=Ti}) LU.out JF.out Mt.out WL (λk e=>.inl (by rw[e];exact Qm)) ⟨X'19,Qm,Zd,⟨Ns.out.1,Ns.out.2.1,Ns.out.2.2.1,SN.1,SN.2,SL.1,SL.2,rt1⟩⟩;have k0e:=k0m.trans WL (by intro z hz e;show TG.mine _;(try dsimp only at e);rw[<- MS z hz,e,Qm];simp[TG.mine]);clear kx zx XB XG;go_wp2;go_roundw;case rel=>exact⟨a1++[x],r2,by rw[ZL,J2.out];go_num,by rw[IF.out];simp,by rw[JB.out,ht2.out];exact H19.below ρE,ae.below G19 ρE,R19.below ρE R19.size,YX.below ρE YX.size,k0e.step0 ρE⟩
   case measure=>exact ξc
theorem bu.none {J:Int->Prop} {o:aT} {w:ϖ} {L:List CD} {e:Int->EN} {LB:List (Int × ϗ)} {i:Int} (h:bu J o w L e LB)(hc:fc L i=none):lk i LB=none:=by obtain⟨P,V,h3⟩:=h;have:=h3 i;rw[hc] at this;exact this
noncomputable def SS.put2 (s:SS) (now i:Int) (p:PK) (up:List Int):Int × SS:=
 match fc s.L i with
 | none=>(23,s)
 | some c=>
  if c.lf=false then (29,s) else
  if p.len<1\/s.Lm<p.len then (26,s) else
  if 1099511627776<s.acc+p.len then (28,s) else
  if c.by_ - aE (s.e i).q<p.len\/(s.e i).q.length=c.pk.toNat then (30,s) else
  if (s.e i).q=[] then (0,SS.wake {s.setE i {s.e i with q:=(s.e i).q++[p]} with acc:=s.acc+p.len} now i p.len up) else (0,{s.setE i {s.e i with q:=(s.e i).q++[p]} with acc:=s.acc+p.len})
theorem xg {s:SS} {now i:Int} {p:PK} {up:List Int} (h1:¬now<s.clk)(h2:¬4611686018427387904<now):s.put now i p up=SS.put2 {s with clk:=now} now i p up:=by unfold SS.put SS.put2;rw[ZI (by unfold SS.told;simp;omega)];rfl
theorem xe {s:SS} {now i:Int} {p:PK} {up:List Int} (h:fc s.L i=none):SS.put2 s now i p up=(23,s):=by unfold SS.put2;rw[h]
theorem xd {s:SS} {now i:Int} {p:PK} {up:List Int} {c:CD} (h:fc s.L i=some c)(hl:c.lf=false):SS.put2 s now i p up=(29,s):=by unfold SS.put2;rw[h];exact ZP hl
theorem t6 {s:SS} {now i:Int} {p:PK} {up:List Int} {c:CD} (h:fc s.L i=some c)(hl:c.lf=true)(h1:p.len<1\/s.Lm<p.len):SS.put2 s now i p up=(26,s):=by unfold SS.put2;rw[h];simp only[hl,Bool.true_eq_false,if_false,ZP h1]
theorem vl {s:SS} {now i:Int} {p:PK} {up:List Int} {c:CD} (h:fc s.L i=some c)(hl:c.lf=true)(h0:¬p.len<1)(h1:¬s.Lm<p.len)(h2:1099511627776<s.acc+p.len):SS.put2 s now i p up=(28,s):=by unfold SS.put2;rw[h];simp only[hl,Bool.true_eq_false,if_false,ZI (not_or.2 ⟨h0,h1⟩),ZP h2]
theorem qh {s:SS} {now i:Int} {p:PK} {up:List Int} {c:CD} (h:fc s.L i=some c)(hl:c.lf=true)(h0:¬p.len<1)(h1:¬s.Lm<p.len)(h2:¬1099511627776<s.acc+p.len)(h3:c.by_ - aE (s.e i).q<p.len\/(s.e i).q.length=c.pk.toNat):SS.put2 s now i p up=(30,s):=by unfold SS.put2;rw[h];simp only[hl,Bool.true_eq_false,if_false,ZI (not_or.2 ⟨h0,h1⟩),ZI h2,ZP h3]
theorem CV {s:SS} {now i:Int} {p:PK} {up:List Int} {c:CD} (h:fc s.L i=some c)(hl:c.lf=true)(h0:¬p.len<1)(h1:¬s.Lm<p.len)(h2:¬1099511627776<s.acc+p.len)(h3:¬c.by_ - aE (s.e i).q<p.len)(h4:¬(s.e i).q.length=c.pk.toNat):SS.put2 s now i p up=if (s.e i).q=[] then (0,SS.wake {s.setE i {s.e i with q:=(s.e i).q++[p]} with acc:=s.acc+p.len} now i p.len up) else (0,{s.setE i {s.e i with q:=(s.e i).q++[p]} with acc:=s.acc+p.len}):=by unfold SS.put2;rw[h];simp only[hl,Bool.true_eq_false,if_false,ZI (not_or.2 ⟨h0,h1⟩),ZI h2,ZI (not_or.2 ⟨h3,h4⟩)]
theorem aW.len {w:ϖ} {B:Nat} {IV:Int} {c:Nat} {l:List PK} {fp:Nat->Prop} (H:aW w B IV c l fp):l.length<=c:=by obtain⟨R,S,f,ps,k0,k1,k2,k3,k4,k5,B',G,_⟩:=H;exact G.2.2.2.2.1
theorem Ee (o:aT)(a:Ad)(s:SS)(now i:Int)(p:PK)(xs:List Int)(w:ϖ)(H:ar o w a s)(W:s.Wf)(N4:¬now<s.clk/\¬4611686018427387904<now)(hnow:0<=now/\now<=4611686018427387904)(XH:s.Lm<=16384)(hacc:0<=s.acc/\s.acc<=1099511627776)(QW:∀p j q,s.kd p j=some q->0<=q.1/\q.1<=Mc)
  (hs:∀c,fc s.L i=some c->c.lf=true->(s.e i).q=[]->dz c=true->bM s.L i xs/\xs≠[]/\xs.length<=1000/\s.A.is i=false):Calls Ψ 86 #[a.S,now,ι ε i,φ (gG p.id p.len p.h0 p.h1 p.h2 p.h3)] w λe w'=>∃n s',e=ϰ (ι ε n)/\s.put now i p xs=(n,s')/\∃o',ar o' w' a s'/\(∀y,y<w.heap.size->o' y=o y)/\KO (λx=>(o x).mine) w w':=by
 refine δV ?_;intro H0 S' MS Yw s0 Ka W0;have e0:s0.L=s.L/\s0.e=s.e/\s0.A=s.A/\s0.acc=s.acc/\s0.Lm=s.Lm/\s0.kd=s.kd:=by rw[<- Ka];exact⟨rfl,rfl,rfl,rfl,rfl,rfl⟩
 have RO:=xg (s:=s) (i:=i) (p:=p) (up:=xs) N4.1 N4.2;rw[Ka] at RO;have Rr:=S'.r;go_in;go_upto_region 1 with (fail);refine jf (θ2 (Ks (λ_=>False) w) S') (λv=>ah v w (gG p.id p.len p.h0 p.h1 p.h2 p.h3) 50) ρB ?_;clear Rr;rintro v1 PB1 ⟨F',JE⟩ Rr;have Ss:=PB1.r;have H1:=H0.below F'.toBelow;have z1:=PB1.size;go_wp2_with fail;refine(ww (o.more w .no) a s now v1 H1 (by have:=N4;omega) (by have:=N4;omega)).mono ?_;rintro e v2 ⟨rfl,H2,kx⟩;rw[Ka] at H2;have RS:¬w=a.S:=λe=>by have:=S'.size;omega
 have PB2:=PB1.ko kx RS;have z2:=kx.size;have Iz:KO (λx=>(o x).mine) w v2:=((F'.mono (λ_ _ f=>f.elim):KO (λx=>x=a.S) w v1).trans kx σh).mono τ9;replace Ka:=ag Ka;clear JE H1 kx F' S' H0 PB1;obtain⟨KJ,KW,Oq,YH,-,-,-,-,oS,-⟩:=id H2;replace Ss:=θ2 KJ.r PB2.r;cases hc:fc s0.L i with
 | none=>have hlk0:=YH.none hc;have lB:=((am Δ Θ Oq i (z:=Kp) ρm).1.trans (by rw[hlk0];try rfl));have N9:=xe (now:=now) (p:=p) (up:=xs) hc;change Hid _ at N9 RO;clear YH KW;go_wp2;go_ret;exact⟨23,s0,rfl,by rw[RO.out];exact N9.out,(o.more w .no),H2.below ρE,MS,Iz.step0 ρE⟩
 | some c=>
  obtain⟨b,qv,hb,Jj,E0,-⟩:=YH.out hc;obtain⟨X0,ob,Q0,ok⟩:=E0;have JZ:aj v2 b qv (s0.e i):=X0;obtain⟨lf,JK⟩:=Nq c.lf;have lB:=((am Δ Θ Oq i (z:=Kp) ρm).1.trans (by rw[hb];try rfl));have lX3:=(aj.c3 JZ).trans (by rw[Jj,JK]);have lX0:=aj.c0 JZ;have OH:=ag hb;clear hb;replace Jj:=ag Jj;have hc0:=ag hc;replace JK:=ag JK;clear YH KW;rcases lf with _|_
  ·have N9:=xd (now:=now) (p:=p) (up:=xs) hc JK.out;change Hid _ at N9 RO;go_wp2;go_ret;exact⟨29,s0,rfl,by rw[RO.out];exact N9.out,(o.more w .no),H2.below ρE,MS,Iz.step0 ρE⟩
  have OJ:(s0.e i).c.lf=true:=by rw[Jj.out];exact JK.out
  unfold dQ at Q0;rw[ZP OJ] at Q0;obtain⟨Q,OD,rfl,Q2,ND⟩:=Q0;change Hid _ at OJ ND;clear lX3 lX0 X0;have IT:=(aj.c0 JZ);have I5:=((aj.c3 JZ).trans σv);by_cases St:p.len<1
  ·have d1:=ZT St;have N9:=t6 (now:=now) (up:=xs) hc JK.out (p:=p) (.inl St);exact ξs
  have d1:=ZF St;by_cases Oj:s0.Lm<p.len
  ·have d2:=ZT Oj;have N9:=t6 (now:=now) (up:=xs) hc JK.out (p:=p) (.inr Oj);exact ξs
  have d2:=ZF Oj;have KE:1<=p.len/\p.len<=16384:=by rw[e0.2.2.2.2.1] at Oj;omega
  have ha0:0<=s0.acc/\s0.acc<=1099511627776:=by rw[e0.2.2.2.1];exact hacc
  obtain⟨t1,QU⟩:=Nq (s0.acc+p.len);have Tw:IntKind.u64.wrap p.len=p.len:=ZZ _ ⟨by omega,by omega⟩;have Yn:IntKind.u64.wrap (s0.acc+p.len)=t1:=by rw[QU];exact ZZ _ ⟨by omega,by omega⟩
  change Hid _ at QU e0;go_wp2_with fail;refine bS (θ6 Iz H2 KJ PB2 JZ Q2) ?_;clear Rr Ss;rintro v3 ⟨ID,H3,KK,YY,J0,Q3⟩ Rr;replace IT:=(aj.c0 J0);replace I5:=((aj.c3 J0).trans σv);have MH:=af KK;have Rh:=af YY;have Jh:=λd os=>(aj.c0 (J0.below (ZW _ d os)));have Jt:=λd os=>((aj.c3 (J0.below (ZW _ d os))).trans σv);refine Wq ?_;refine pe ?_;refine bF (θ6 H3 KK YY J0 Q3 ID) ?_;clear Rr;rintro v4 ⟨H4,Nh,PB4,J1,Q4,IC⟩ Rr;replace IT:=(aj.c0 J1);replace I5:=((aj.c3 J1).trans σv);clear MH Rh Jh Jt H3 KK YY J0 Q3;by_cases hl3:1099511627776<t1
  ·have d3:=ZT hl3;have N9:=vl (now:=now) (up:=xs) hc JK.out (p:=p) ρa ρa (by rw[QU.out];omega);change Hid _ at N9 RO;go_wp2_with fail;refine δA ?_;clear Rr IT I5;intro v5 IN v6 H6 Nx TO KC Q6 IQ Rr IT I5;go_wp2;go_ret;exact⟨28,s0,rfl,by rw[RO.out];exact N9.out,(o.more w .no),H6.below ρE,MS,IQ.step0 ρE⟩
  have d3:=ZF hl3;go_wp2_with fail;refine δA ?_;clear Rr IT I5;intro v5 IN v6 H6 Nx TO KC Q6 IQ Rr IT I5;go_wp2_with fail;refine bS (θ6 IQ H6 Nx TO KC Q6) ?_;clear Rr;rintro v7 ⟨I8,H7,Rw,PB7,Nz,Q7⟩ Rr;replace IT:=(aj.c0 Nz);replace I5:=((aj.c3 Nz).trans σv);have MH:=af Rw;have Rh:=af PB7;have Jh:=λd os=>(aj.c0 (Nz.below (ZW _ d os)));have Jt:=λd os=>((aj.c3 (Nz.below (ZW _ d os))).trans σv);refine Ws 5 (gw ?_);refine bF (θ6 H7 Rw PB7 Nz Q7 I8) ?_;clear Rr;rintro v8 ⟨H8,Qe,PB8,NA,Q8,Je⟩ Rr;replace IT:=(aj.c0 NA);replace I5:=((aj.c3 NA).trans σv);clear MH Rh Jh Jt H7 Rw PB7 Nz Q7;have J1:=NA;have H4:=H8;have Q4:=Q8;have PB4:=PB8;have Nh:=Qe;have IC:=Je;have v4h:True:=trivial;have lX0:=aj.c0 J1;have ok0:=ok;replace ok:=ag ok;by_cases hl4:(s0.e i).c.by_ - aE (s0.e i).q<p.len
  ·have N9:=qh (now:=now) (up:=xs) hc JK.out (p:=p) ρa ρa (by rw[QU.out];omega) (.inl (by rw[<- Jj.out];omega));go_wp2_with fail;refine(qi Q _ _ _ p OD v8 Q4 KE.1 KE.2 hl4).mono ?_;exact ξv
  have hql:(s0.e i).q.length<=(s0.e i).c.pk.toNat:=aW.len Q4;by_cases hl5:(s0.e i).q.length=(s0.e i).c.pk.toNat
  ·have N9:=qh (now:=now) (up:=xs) hc JK.out (p:=p) ρa ρa (by rw[QU.out];omega) (.inr (by rw[<- Jj.out];omega));go_wp2_with fail;refine(sK Q _ _ _ p OD v8 Q4 KE.1 KE.2 ρa hl5).mono ?_;exact ξv
  have N9:=CV (now:=now) (up:=xs) hc JK.out (p:=p) ρa ρa (by rw[QU.out];omega) (by rw[<- Jj.out];omega) (by rw[<- Jj.out];omega);rw[QU.out] at N9;go_wp2_with fail;refine(xj Q _ _ _ p OD v8 Q4 KE.1 KE.2 ρa ρa).mono ?_;rintro e v5 ⟨rfl,QA5,kx⟩;have nRq:¬OD w:=λf=>by have:=ND.out _ f;rw[Yw _ (ZR _)] at this;cases this
  have JO:=J1.ko kx τc;have TN:=PB4.ko kx nRq;have Ln:=Nh.ko kx (λf=>by have:=ND.out _ f;rw[oS] at this;cases this);have H5:=H4.entTo (x:={s0.e i with q:=(s0.e i).q++[p]}) hc OH.out Jj.out kx (λy f=>.inr (ND.out y f)) ⟨aj.popq JO,ob,by unfold dQ;rw[ZP OJ.out];exact⟨Q,OD,rfl,QA5,ND.out⟩,ok.out⟩;have IN:=IC.trans kx σH;have z5:=kx.size;obtain⟨s1,Ju⟩:=Nq (s0.setE i {s0.e i with q:=(s0.e i).q++[p]});rw[Ju] at H5;have e1:s1.T=s0.T/\s1.Lm=s0.Lm/\s1.clk=s0.clk/\s1.acc=s0.acc:=by rw[<- Ju];exact⟨rfl,rfl,rfl,rfl⟩
  clear kx H4 J1 PB4 Nh Q4 IC;change Hid _ at Ju N9 RO e1;have Q5:=QA5;clear QA5;have Ss:=θ2 Ln.r TN.r;go_upto_region 17 with (fail);refine bS (θ6 IN H5 Ln TN JO Q5) ?_;clear Rr Ss;rintro v6 ⟨IQ,H6,Nx,TO,KC,Q6⟩ Rr;have MH:=af Nx;have Rh:=af TO;refine Ws 10 (gw ?_);refine bF (θ6 H6 Nx TO KC Q6 IQ) ?_;clear Rr;rintro v7 ⟨H7,Rw,PB7,Nz,Q7,I8⟩ Rr;clear MH Rh H6 Nx TO KC Q6;have lX0:=aj.c0 Nz;go_upto_region 18 with (fail);refine gX v7 (λy=>y=a.S) (λv=>ah v a.S #[ι ε s0.T,ι ε s0.Lm,a.T,.map (some a.BY),a.ON,a.LV,.map (some a.KM),s0.clk,t1] 155) ρB (λ_ kx=>kx) ?_;rintro v8 Qe kx;have H8:=H7.numTo (clk:=s1.clk) (acc:=t1) kx (by rw[e1.out.1,e1.out.2.1,e1.out.2.2.1];exact Qe);have Je:=I8.trans kx (by intro x hx f;show TG.mine _;rw[<- MS x hx,f,oS];simp[TG.mine]);have PB8:=PB7.ko kx RS;have NA:=Nz.ko kx (λf=>by rw[f,oS] at ob;cases ob);have Q8:=Q7.ko kx (λy hy f=>by have:=ND.out y hy;rw[f,oS] at this;cases this);have z8:=kx.size;clear kx H7 PB7 Nz Q7 Rw I8 lX0;have Ss:=θ2 Qe.r PB8.r;have lX0:=aj.c0 NA;obtain⟨n,hn⟩:=Nq (((s0.e i).q++[p]).length);go_wp2_with fail;refine(sJ Q _ _ _ OD _ Q8).mono ?_;rintro e u ⟨rfl,rfl⟩;rw[hn];by_cases h1:n=1
  rotate_left
  ·have IG:((n:Int)==1)=false:=by rw[ZN];omega
   have IX:(s0.e i).q≠[]:=λe=>h1 (by rw[<- hn,e];rfl);change Hid _ at IX hn;go_wp2;go_ret;exact⟨0,{s1 with acc:=t1},rfl,by rw[RO.out];exact(by rw[N9.out,ZI IX.out,Ju.out]),(o.more w .no),H8.below ρE,MS,Je.step0 ρE⟩
  subst h1;have QR:(s0.e i).q=[]:=by cases hq:(s0.e i).q with|nil=>rfl|cons x r=>rw[hq] at hn;simp at hn
  have hsi:(s1.e i).q≠[]:=by rw[<- Ju.out];unfold SS.setE aw;simp
  have Oa:∀j,(s1.e j).c=(s0.e j).c:=by rw[<- Ju.out];intro j;unfold SS.setE aw;simp only[];split<;>rename_i e<;>first|(rw[e])|rfl
  have W8:({s1 with acc:=t1}:SS).Wf:=Wf.of_same W0 (by rw[<- Ju.out];rfl) (λj d h=>by show (s1.e j).c=d;rw[Oa j];exact W0.ec j d h) (λp j h=>by rw[<- Ju.out] at h;exact h) (λj h=>by rw[<- Ju.out] at h;exact h);have Sl:s1.L=s0.L/\s1.kd=s0.kd/\s1.A=s0.A:=by rw[<- Ju.out];exact⟨rfl,rfl,rfl⟩
  change Hid _ at hn QR hsi Oa Sl;go_wp2_with fail;refine(Ct (o.more w .no) a {s1 with acc:=t1} now i p.len xs c b _ H8 W8 (λp j q h=>QW p j q (by have h2:s1.kd p j=some q:=h;rw[Sl.out.2.1,e0.out.2.2.2.2.2] at h2;exact h2)) (by show fc s1.L i=some c;rw[Sl.out.1];exact hc) JK.out hsi.out OH.out hnow ⟨by omega,by omega⟩ (λh=>by show bM s1.L i xs/\_/\_/\s1.A.is i=false;rw[Sl.out.1,Sl.out.2.2,e0.out.1,e0.out.2.2.1];exact hs c (by rw[<- e0.out.1];exact hc) JK.out (by rw[<- e0.out.2.1];exact QR.out) h)).mono ?_;rintro e v9 ⟨rfl,o9,H9,oe9,kx⟩;have Jl:=Je.trans kx (by intro x hx f;(try dsimp only at f);rw[MS x hx] at f;exact f);have z9:=kx.size;have ow9:∀x,x<w.heap.size->o9 x=o x:=λx hx=>(oe9 x ρa).trans (MS x hx);clear kx;go_wp2;go_ret;exact⟨0,({s1 with acc:=t1}:SS).wake now i p.len xs,rfl,by rw[RO.out];exact(by rw[N9.out,ZP QR.out,Ju.out]),o9,H9.below ρE,ow9,Jl.step0 ρE⟩
end Go.Proofs.YtfdlemkplejdnaaGreat
