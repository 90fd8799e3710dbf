/- WholeLatest, part 22. Conditions: none. -/
import Derived.Test.YtfdlemkplejdnaaGreatA17
import Derived.Test.YtfdlemkplejdnaaGreatA20
import Derived.Test.YtfdlemkplejdnaaGreatA21
namespace Go.Proofs.YtfdlemkplejdnaaGreat
open Go.RowKit Go.Sort
open Value renaming int->ι,pointer->ψ,slice->ζ,tuple->χ,agg->φ,map->μ,bool->β
open IntKind renaming u64->υ,i64->ε,u16->ω
open Ending renaming returned->ϰ
open Go.Proofs.Tryz renaming prog->Ψ,underlying3->Θ,underlying147->Δ,underlying152->Γ,underlying202->Φ,underlying39->Ξ,underlying207->Ω
open Go renaming World->ϖ,Value->ϗ
set_option linter.unusedVariables false
set_option linter.unusedSimpArgs false
set_option maxHeartbeats 8000000
set_option maxRecDepth 100000
theorem ue {L:List CD} {i:Int} (h:∀c,fc L i=some c->eZ c=false):eB L i=none:=by
 unfold eB;cases hc:fc L i with
 | none=>rfl
 | some c=>simp[h c hc]
theorem lH {L:List CD} (h0:fc L 0=none):∀{xs:List Int} {i:Int},cj L i xs->dB L i xs
 | [],i,h=>by have h:i=0:=h;rw[h];exact h0
 | x::r,i,⟨h1,c,h2,h3,h4⟩=>⟨c,h2,h1,lH h0 h4⟩
theorem gA:∀{xs:List Int} {K:Int->List Int},∀y ∈ (aS K xs).1,y ∈ xs
 | [],_,y,h=>h
 | [i],_,y,h=>h
 | i::p::r,K,y,h=>by
  unfold aS at h;split at h
  ·rcases qC.1 h with h|h
   ·simp[h]
   ·exact qb _ (gA y h)
  ·simp at h;simp[h]
theorem Wf.of_same {s t:SS} (h:s.Wf)(hL:t.L=s.L)(hc:∀i c,fc s.L i=some c->(t.e i).c=c)(hk:∀p j,t.kd p j≠none->s.kd p j≠none)(hl:∀j,t.lv j≠none->s.lv j≠none):t.Wf:=by obtain⟨h1,h2,h3,h4,h5,h6,h7,h8⟩:=h;refine⟨by rw[hL];exact h1,by rw[hL];exact h2,λp j hj=>by rw[hL];exact h3 p j (hk p j hj),by rw[hL];exact h4,λi c hh=>hc i c (by rw[<- hL];exact hh),λj hj=>?_,by rw[hL];exact h7,by rw[hL];exact h8⟩;rw[hL];exact h6 j (hl j hj)
theorem fV (s:SS)(i:Int):(s.sleep1 i).L=s.L/\(∀j,((s.sleep1 i).e j).c=(s.e j).c/\((s.sleep1 i).e j).q=(s.e j).q)/\(s.sleep1 i).lv=s.lv/\(s.sleep1 i).A=s.A/\(∀p j,(s.sleep1 i).kd p j≠none->s.kd p j≠none):=by
 unfold SS.sleep1;refine⟨rfl,λj=>?_,rfl,rfl,λp j h=>?_⟩
 ·simp only[];split
  ·dsimp only;split<;>exact⟨rfl,rfl⟩
  ·exact⟨rfl,rfl⟩
 ·simp only[] at h;unfold ay at h;split at h
  ·rename_i e;unfold aP at h;split at h
   ·exact ax rfl h
   ·rw[e];exact h
  ·exact h
theorem Wf.sleep1 {s:SS} (h:s.Wf)(i:Int):(s.sleep1 i).Wf:=by obtain⟨h1,h2,h3,h4,h5⟩:=fV s i;exact Wf.of_same h h1 (λj c hc=>by rw[(h2 j).1];exact h.ec j c hc) h5 (λj hj=>by rw[<- h3];exact hj)
theorem yh {L:List CD} (h:(L.map CD.id).Nodup) {c:CD} (hc:c ∈ L):fc L c.id=some c:=by
 induction L with
 | nil=>cases hc
 | cons a r ih=>
  rw[eJ,qD] at h;unfold fc;rcases qC.1 hc with rfl|hc
  ·rw[qP rfl]
  ·rw[qI (λe=>h.1 (by rw[<- e];exact List.mem_map_of_mem hc))];exact ih h.2 hc
theorem gE {w:ϖ} {T M:Nat} {L:List CD} (h:aF w T M L):(L.map CD.id).Nodup:=by have:=aB.nodup h.2.1;rwa [tl,List.map_map] at this
def SS.anew (s:SS)(xs:List Int):SS:={s with e:=λj=>if j ∈ xs then {s.e j with sh:=CH.zero} else s.e j}
theorem wa (s:SS)(xs:List Int)(x:Int):s.anew (xs++[x])=(s.anew xs).setE x {(s.anew xs).e x with sh:=CH.zero}:=by
 unfold SS.anew SS.setE
 congr 1
 funext j
 unfold ay;simp only[qM,qS];by_cases h1:j=x
 ·subst h1;rw[qP (.inr rfl),qP rfl];split<;>rfl
 ·rw[qI h1];by_cases h2:j ∈ xs
  ·rw[qP (.inl h2),qP h2]
  ·rw[qI (by simp[h1,h2]),qI h2]
theorem xV (s:SS):s.anew []=s:=by unfold SS.anew;simp
theorem kn:CH.zero.ok/\(0<=CH.zero.t/\CH.zero.t<=Ma):=by refine⟨⟨?_,?_⟩,by decide⟩<;>(unfold LN.ok CH.zero ai;simp)
theorem sH {s:SS} {i p:Int} {m:TM} (hp:(s.e i).c.par=p)(hm:aP (s.kd p) i none=m)(h:¬∀j,m j=none):s.sleep1 i={s with kd:=ay s.kd p m}:=by subst hp hm;unfold SS.sleep1;simp only[qI h]
theorem uv {s:SS} {i p:Int} {m:TM} (hp:(s.e i).c.par=p)(hm:aP (s.kd p) i none=m)(h:∀j,m j=none)(Ob:(s.L.map CD.id).Nodup)(ec:∀j c,fc s.L j=some c->(s.e j).c=c):s.sleep1 i=SS.anew {s with kd:=ay s.kd p m} (aN (λc=>decide (c.par=p)) s.L):=by
 subst hp hm;unfold SS.sleep1 SS.anew;simp only[qP h]
 congr 1
 funext j
 have:(j ∈ aN (λc=>decide (c.par=(s.e i).c.par)) s.L)↔((fc s.L j).isSome=true/\(s.e j).c.par=(s.e i).c.par):=by
  rw[nP];constructor
  ·rintro⟨c,h1,h2,rfl⟩;have:=yh Ob h1;refine⟨by rw[this];rfl,?_⟩;rw[ec _ c this];simpa using h2
  ·rintro⟨h1,h2⟩;obtain⟨c,hc⟩:=Option.isSome_iff_exists.1 h1;refine⟨c,(aM hc).1,?_,(aM hc).2⟩;rw[<- ec _ c hc];simpa using h2
 by_cases h2:j ∈ aN (λc=>decide (c.par=(s.e i).c.par)) s.L
 ·rw[qP h2,qP (this.1 h2)]
 ·rw[qI h2,qI (λq=>h2 (this.2 q))]
theorem tH (o:aU)(a:Ad)(s:SS)(i:Int)(w:ϖ)(H:ar o w a s)(hn:∀c,fc s.L i=some c->eZ c=false):
  CB 165 #[a.S,ι ε i] w (χ #[]):=by
 have S':=H.1;have A':=H.2.2.2.2.1;have Rr:=S'.r;unfold CB;go_in;go_wp2_with fail;refine(vY s.A a.ON a.A a.O a.C o s.L i w A' (ue hn)).mono ?_;rintro e v ⟨rfl,rfl⟩;go_wp2;go_returns;exact⟨rfl,ρE⟩
theorem nZ:∀{xs:List Int} {K:Int->List Int},(aS K xs).1.length<=xs.length
 | [],_=>qR _
 | [i],_=>qR _
 | i::p::r,K=>by
  unfold aS;split
  ·have:=nZ (xs:=p::r) (K:=ay K p (dE i (K p)));simp only[mD] at*;omega
  ·simp
theorem aj.size {w:ϖ} {b:Nat} {qv:ϗ} {x:EN} (h:aj w b qv x):b<w:=ah.size h
theorem Bx (o:aU)(a:Ad)(s:SS)(i:Int)(xs:List Int)(c:CD)(w:ϖ)(H:ar o w a s)(W:s.Wf)(hc:fc s.L i=some c)(hs:eZ c=true)(hl:c.lf=true)(hi:s.A.is i=true)(hp:cj s.L i xs)(ML:xs≠[])(hx:xs.length<=1000)(Oo:xs.Nodup)(hK:∀y ∈ 0::xs.tail,s.A.K y≠[]):Calls Ψ 165 #[a.S,ι ε i] w λe w'=>e=ϰ (χ #[])/\∃o',ar o' w' a (s.sleep i xs)/\(∀x,x<w.heap.size->o' x=o x)/\KO (λx=>(o x).mine) w w':=by
 have H0:=H.own (o':=o.more w .no) (λx hx=>aU.more_lt hx);have S':=H0.1;have A':=H0.2.2.2.2.1;have T':=H0.2.1;have Ob:=gE T';have Rr:=S'.r;go_in;go_wp2_with fail;refine(DM s.A a.ON a.A a.O a.C _ s.L i xs c w A' hc hs hl hi hp W.nz ML hx Oo hK).mono ?_;rintro e v1 ⟨u,rfl,G1,A1,kx⟩;have H1:=H0.actTo A1 (λ_ _=>rfl) kx;have Ou:∀x,x<w.heap.size->o.more w .no x=o x:=λx hx=>aU.more_lt hx;have I':KO (λx=>(o x).mine) w v1:=kx.mono (λx hx f=>by (try dsimp only at f);rw[Ou x hx] at f;show TG.mine _;intro e;rw[e] at f;exact f);obtain⟨ys,KR⟩:=Nq ((aS s.A.K xs).1);rw[KR] at G1;have Od:∀y ∈ ys,y ∈ xs:=by rw[<- KR];exact gA
 have QY:ys.length<=1000:=by rw[<- KR];exact qK nZ hx
 obtain⟨oa,oc,rfl⟩:=G1.slice;have nz1:∀x,some x=(Value.slice oa ys.length oc).ownBlock->o.more w .no x=.no:=λx hx=>aU.more_ge (G1.own_ge x hx.symm).1;obtain⟨s0,MK⟩:=Nq ({s with A:=⟨ay s.A.on i false,(aS s.A.K xs).2⟩}:SS);have W1:s0.Wf:=τm;have eL0:s0.L=s.L:=by rw[<- MK]
 rw[MK] at H1;have RU:∀y ∈ xs,∃c,fc s.L y=some c:=eV (lH W.nz hp);have z1:=kx.size;have NG:s.sleep i xs=ys.foldl SS.sleep1 s0:=by unfold SS.sleep;rw[qP ⟨by rw[W.ec i c hc];exact hs,hi⟩,KR,MK]
 change Hid _ at NG MK KR Od RU;clear S' A' T' A1 kx;go_wp2_with fail;go_loopw [24] (λk wr=>∃(a1 b1:List Int) (o1:aU),k=ι ε (a1.length:Nat)/\ys=a1++b1/\ar o1 wr a (a1.foldl SS.sleep1 s0)/\(a1.foldl SS.sleep1 s0).Wf/\(a1.foldl SS.sleep1 s0).L=s.L/\HI wr w (ζ oa ys.length oc) ys/\(∀x,some x=(Value.slice oa ys.length oc).ownBlock->o1 x=.no)/\(∀x,x<w.heap.size->o1 x=o x)/\KO (λx=>(o x).mine) w wr) (λk _=>ys.length - (intOf k).toNat);case atStart=>exact⟨[],ys,_,rfl,rfl,H1,W1,eL0,G1,nz1,Ou,I'⟩
 case round=>
  obtain⟨a1,b1,o1,rfl,Kq,H0,W0,eL,G0,nz0,Wi,Kj⟩:=hrel;clear H1 G1 nz1 Ou I' W1;have Kv:a1.length+b1.length=ys.length:=by rw[Kq,qL]
  obtain⟨q,hq⟩:=Nq a1.length;rw[hq] at Kv ⊢;have zw:=Kj.size;cases b1 with
  | nil=>have Ku:¬q<ys.length:=ρo;have hd:=qF Ku;have Rw:a1=ys:=ρQ;rw[Rw] at H0;change Hid _ at Kv hq;clear Kq Rw;go_wp2_with fail;go_end0;exact⟨rfl,_,(H0.below ρE).same NG.out.symm,Wi,Kj.step0 ρE⟩
  | cons x r=>
   have Ku:q<ys.length:=ρo;have hd:=qT Ku;have NI:ys[q]?=some x:=ρI;have KI:ys≠[]:=ρS;obtain⟨c,hc⟩:=RU.out x (Od.out x ρS);have My:(a1++[x]).foldl SS.sleep1 s0=(a1.foldl SS.sleep1 s0).sleep1 x:=by rw[List.foldl_append];rfl
   obtain⟨s1,Lv⟩:=Nq (a1.foldl SS.sleep1 s0);rw[Lv] at H0 W0 eL My;rw[<- eL] at hc;obtain⟨Vd,OA,g0,e0,KY,e1,_⟩:=ae.at G0 (λ_=>rfl);have e1:=e1 KI;obtain⟨rfl,-,rfl⟩:=qV e0;subst e1;obtain⟨cx,gx,bx⟩:=HI.cell G0 q x NI;have W3:=Wf.sleep1 W0 x;have eL3:=(fV s1 x).1.trans eL;obtain⟨Te,ZW,NL,Ys,-,-,N6,ZB,oS,oT,oM,Uq,Us⟩:=id H0;obtain⟨b,qv,hb,KU,Sw,ob,ok⟩:=Ys.at hc;obtain⟨p,hp⟩:=Nq ((s1.e x).c.par);have Nj:bT s1.L p=true:=by rw[<- hp,KU];exact W0.tree c (aM hc).1
   obtain⟨t,fp,ht,Yx,OD,-⟩:=ZB.out Nj;have Mo:=W0.ids p;have TV:=W0.len;obtain⟨m,hm⟩:=Nq (aP (s1.kd p) x none);have lB:=((am Δ Θ NL x (z:=Kp) ρm).2.trans (by rw[hb];try rfl));have lX:=(aj.c2 Sw).trans (by rw[hp]);have lK:=((am Γ Θ N6 p (z:=Kp) ρm).2.trans (by rw[ht];try rfl));have Ss:=Te.r;change Hid _ at Kq hq KY Kv Lv My eL hp hb ht hc KU Mo hm eL3;clear KI Ys ZB NL Sw;go_wp2_with fail;refine(Fh t (s1.kd p) fp x (s1.L.map CD.id) wr Yx (λj hj=>jh ((Mo.out j hj).imp λc h=>h.1)) (by rw[nl];omega)).mono ?_;rintro e v3 ⟨er,rfl,TT⟩;rw[hm.out] at TT;have H3:=H0.kdTo Nj ht.out OD TT;obtain⟨fp3,T3,hfp3,kx⟩:=TT;have zz:=kx.size;have Kk:=Kj.trans kx (by intro y hy f;show TG.mine _;rw[<- Wi y hy,OD y f];simp[TG.mine]);have G3:=ae.ko G0 kx (λy _ hy f=>by have h1:=nz0 y hy;rw[OD y f] at h1;cases h1);have Zn:∀y,y<w.heap.size->o1.more wr (.kd p) y=o y:=λy hy=>(aU.more_lt ρa).trans (Wi y hy);have nz3:∀y,some y=(Value.slice g0 ys.length oc).ownBlock->o1.more wr (.kd p) y=.no:=λy hy=>(aU.more_lt (G0.own_ge y hy.symm).2).trans (nz0 y hy);obtain⟨MU,MO,-,-,-,-,Ow,-,-⟩:=id H3;have lK3:=((am Γ Θ Ow p (z:=Kp) ρm).2.trans ρT);replace Ss:=θ2 Te.r MU.r;clear lB lX lK Te N6 ZW Yx H0 G0 nz0 Wi Kj kx cx gx bx;go_wp2_with fail;refine(Dr t m fp3 v3 T3).mono ?_;rintro e u ⟨n,rfl,hn,rfl⟩;by_cases h0:n=0
   rotate_left
   ·have hd:=dt ((0:Int)<(n:Int));have he:=sH hp.out hm.out (λh=>h0 (hn.2 h));change Hid _ at he hn;go_wp2;go_roundw;case rel=>exact⟨a1++[x],r,_,by rw[qL,hq.out];go_num,by rw[Kq.out];simp,by rw[My.out,he.out];exact H3.below ρE,by rw[My.out];exact W3,by rw[My.out];exact eL3.out,ae.below G3 ρE,nz3,Zn,Kk.step0 ρE⟩
    case measure=>exact ξb
   ·subst h0;have he:=uv hp.out hm.out (hn.1 rfl) (by rw[eL.out];exact Ob) W0.ec;change Hid _ at he hn;go_wp2_with fail;refine(kt a.T a.M _ p _ MO TV).mono ?_;rintro e v4 ⟨u,rfl,C4,kx⟩;have H4:=H3.below kx;have G4:=ae.below G3 kx;have Km:=Kk.step0 kx;have z4:=kx.size;obtain⟨cs,MG⟩:=Nq (aN (λc=>decide (c.par=p)) s1.L);rw[show aN (λc=>decide (c.par=p)) ({s1 with kd:=ay s1.kd p m}:SS).L=cs from MG] at C4;rw[MG] at he;have YN:∀y ∈ cs,∃c,fc s1.L y=some c:=by rw[<- MG];exact λy hy=>iA hy
    have LD:cs.length<=1000:=by rw[<- MG,aN,List.length_mergeSort,nl];exact qK (qH _ _) TV
    obtain⟨ca,cc,rfl⟩:=C4.slice;obtain⟨s3,NK⟩:=Nq ({s1 with kd:=ay s1.kd p m}:SS);have e3L:s3.L=s1.L:=by rw[<- NK]
    have e3e:s3.e=s1.e:=by rw[<- NK]
    rw[NK] at H4 he;obtain⟨o3,XK⟩:=Nq (o1.more wr (.kd p));rw[XK] at H4 nz3 Zn;change Hid _ at MG YN NK e3L e3e XK;clear lK3 MU MO Ow H3 G3 Kk kx T3;go_wp2_with fail;obtain⟨wo,hwo⟩:∃wo:ϖ,wo=wr:=⟨_,rfl⟩;go_loopw [61] (λk wr=>∃(a2 b2:List Int),k=ι ε (a2.length:Nat)/\cs=a2++b2/\ar o3 wr a (s3.anew a2)/\HI wr v3 (ζ ca cs.length cc) cs/\HI wr w (ζ g0 ys.length oc) ys/\KO (λx=>(o x).mine) w wr) (λk _=>cs.length - (intOf k).toNat);case atStart=>exact⟨[],cs,rfl,rfl,by rw[xV];exact H4,C4,G4,Km⟩
    case round=>
     obtain⟨a2,b2,rfl,Zf,H5,C5,G5,Kw⟩:=hrel;clear H4 C4 G4 Km;have hac:a2.length+b2.length=cs.length:=by rw[Zf,qL]
     obtain⟨q2,MQ⟩:=Nq a2.length;rw[MQ] at hac ⊢;have zw5:=Kw.size;cases b2 with
     | nil=>
      have Mp:¬q2<cs.length:=by simp at hac;omega
      have Np:=qF Mp;have Rw:a2=cs:=by rw[Zf,qA]
      rw[Rw] at H5;change Hid _ at hac MQ;clear Zf Rw;go_wp2;go_roundw;case rel=>exact⟨a1++[x],r,o3,by rw[qL,hq.out];go_num,by rw[Kq.out];simp,by rw[My.out,he.out];exact H5.below ρE,by rw[My.out];exact W3,by rw[My.out];exact eL3.out,ae.below G5 ρE,nz3,Zn,Kw.step0 ρE⟩
      case measure=>exact ξb
     | cons y r2=>
      have Mp:q2<cs.length:=by simp at hac;omega
      have Np:=qT Mp;have hyq:cs[q2]?=some y:=by rw[Zf,<- MQ];simp
      have hne2:cs≠[]:=by rw[Zf];simp
      obtain⟨d,VN⟩:=YN.out y (by rw[Zf];simp);have Pj:=wa s3 a2 y;have e5L:(s3.anew a2).L=s1.L:=e3L.out;obtain⟨s5,XQ⟩:=Nq (s3.anew a2);rw[XQ] at H5 Pj e5L;rw[<- e5L] at VN;obtain⟨ca2,cap3,g1,e0,hcap3,e1,_⟩:=ae.at C5 (λ_=>rfl);have e1:=e1 hne2;obtain⟨rfl,-,rfl⟩:=qV e0;subst e1;obtain⟨cy,gy,by2⟩:=HI.cell C5 q2 y hyq;obtain⟨NE,-,Vi,E'5,-,-,-,-,oS5,-⟩:=id H5;obtain⟨b5,qv5,Lq,N9,E5,-⟩:=E'5.out VN;have LA:aj wr b5 qv5 (s5.e y):=E5.1;have lB:=((am Δ Θ Vi y (z:=Kp) ρm).2.trans (by rw[Lq];try rfl));replace Ss:=NE.r;have zb5:=LA.size;change Hid _ at Zf MQ hac XQ Pj e5L Lq N9 VN;clear E'5 Vi hne2;go_wp2_with (first|(refine aj.ssh LA CH.zero (.tmp 73) (.tmp 71) ρs ρs ρs ρs ?_;intro v6 MP kx zx));have Sd:=E5.2.1;have H6:=H5.entTo (i:=y) (x:={s5.e y with sh:=CH.zero}) VN.out Lq.out N9.out kx (λk e=>.inl (by rw[e];exact Sd)) ⟨MP,Sd,E5.2.2.1.ko kx (λk hk e=>by rw[e,Sd] at hk;cases hk),⟨E5.2.2.2.1,E5.2.2.2.2.1,E5.2.2.2.2.2.1,kn.1,kn.2,E5.2.2.2.2.2.2.2.2⟩⟩;have C6:=ae.ko C5 kx (λz _ hz e=>ae.ne_blk C5 LA ρf (by rw[<- e];exact hz));have G6:=ae.ko G5 kx (λz _ hz e=>ae.ne_blk G5 LA ρf (by rw[<- e];exact hz));have KH:=Kw.trans kx (by intro z hz e;show TG.mine _;rw[<- Zn z hz,e,Sd];simp[TG.mine]);clear kx;go_roundw;case rel=>exact⟨a2++[y],r2,by rw[qL,MQ.out];go_num,by rw[Zf.out];simp,by rw[Pj.out];exact H6.below ρE,ae.below C6 ρE,ae.below G6 ρE,KH.step0 ρE⟩
      case measure=>have:=hac.out;simp[intOf] at*;omega
open Classical in
noncomputable def pC (m:TM):Bool:=decide (∃j,m j≠none)
open Classical in
theorem GW (B:Nat)(m:TM)(fp:Nat->Prop)(w:ϖ)(H:aQ 211 w B m fp)(v:Int)(x:Bool)(hv:kD m=v)(hx:pC m=x):
  CB 156 #[B] w (χ #[v,β x]):=by
 refine(Jj B m fp w H).mono ?_;rintro e w' ⟨u,ok,rfl,hu,hb⟩;have e2:pC m=ok:=by
  unfold pC;cases ok with
  | false=>exact qF (λ⟨j,hj⟩=>hj (hu.2 j))
  | true=>obtain⟨⟨j,q,hq,_⟩,_⟩:=hu;exact qT ⟨j,by rw[hq];simp⟩
 exact⟨by rw[<- hv,BH hu,<- hx,e2],hb⟩
theorem rt {m:TM} (h:∀j q,m j=some q->0<=q.1/\q.1<=Mc):0<=kD m/\kD m<=Mc:=by
 have key:∀v,jb m v true->0<=v/\v<=9223372036854775808:=by rintro v ⟨⟨j,q,hq,e⟩,_⟩;have:=h j q hq;omega
 unfold kD;split
 ·rename_i SD;exact key _ (Classical.choose_spec SD)
 ·omega
theorem xn {c:CH} {m d n low p:Int} (hm:an m)(hd:0<=d)(hn:an n)(hl:0<=low/\low<=Mc)(hp:an p)(oc:c.ok):(c.wake m d n low p).ok/\(0<=(c.wake m d n low p).t/\(c.wake m d n low p).t<=Ma):=by
 have os:=RN.start_ok (m:=m) (d:=d) (n:=n) hm hd hn hl (ja hp);unfold CH.wake CH.ok;simp only[];split
 ·exact⟨RN.meet_ok oc os,RN.time_rng (RN.meet_ok oc os) p⟩
 ·exact⟨os,RN.time_rng os p⟩
theorem wi {c:CH} {m d n now p:Int} (hm:an m)(hd:0<=d)(hn:an n)(hl:0<=now/\now<=Mc)(hp:an p)(oc:c.ok):(c.capped m d n now p).ok/\(0<=(c.capped m d n now p).t/\(c.capped m d n now p).t<=Ma):=by
 have os:=RN.start_ok (m:=m) (d:=d) (n:=n) hm hd hn hl (ja hp);unfold CH.capped;split
 ·exact kn
 ·unfold CH.ok;simp only[];split
  ·have:=RN.reach_rng (RN.meet_ok oc os) (p*65536);exact⟨RN.meet_ok oc os,by omega⟩
  ·have:=RN.reach_rng os (p*65536);exact⟨os,by omega⟩
theorem CS {l:LF} {m d n x h:Int} (hm:an m)(hd:0<=d)(hn:an n)(hx:0<=x/\x<=Mc)(ol:l.ok):((l.woke m d n x).headed h).ok/\(0<=((l.woke m d n x).headed h).e/\((l.woke m d n x).headed h).e<=Ma)/\(0<=((l.woke m d n x).headed h).t/\((l.woke m d n x).headed h).t<=Ma):=by
 have hy:=ja ol.2.2;have o1:=RN.start_ok (m:=m) (d:=d) (n:=n) hm hd hn hx hy;have o2:=RN.ready_ok (m:=m) (d:=d) (n:=n) hm hn ⟨hx.1,by omega⟩ hy;have ok:(l.woke m d n x).ok:=by
  refine⟨?_,?_,ol.2.2⟩
  ·show (if l.has then _ else _:RN).ok;split
   ·exact RN.meet_ok ol.1 o1
   ·exact o1
  ·show (if l.has then _ else _:RN).ok;split
   ·exact RN.meet_ok ol.2.1 o2
   ·exact o2
 have:=uW (x:=false) (s:=0) (h:=h) ok;simpa using this
theorem py {m d n:Int} (h0:0<=m/\0<=d/\0<=n)(h:Go.Proofs.YtfdlemkplejdnaaGreat.kd m d n≠0):(0<=m/\m<=Ma)/\(0<=d/\d<=Ma)/\(0<=n/\n<=Ma):=by have:=gk h;omega
theorem Wf.duesTo {s:SS} (h:s.Wf) {i:Int} {c:CD} {l:LF} (hc:fc s.L i=some c)(hl:c.lf=true):(s.duesTo i l).Wf:=by
 obtain⟨h1,h2,h3,h4,h5,h6,h7,h8⟩:=h;have ee:∀j,((s.duesTo i l).e j).c=(s.e j).c/\((s.duesTo i l).e j).q=(s.e j).q:=λj=>ηM
 refine⟨h1,h2,h3,h4,λj d hd=>by rw[(ee j).1];exact h5 j d hd,λj hj=>?_,h7,h8⟩;by_cases e:j=i
 ·rw[e];exact⟨c,hc,hl⟩
 ·refine h6 j ?_;have hj:aP s.lv i (some (l.e,l.t)) j≠none:=hj;unfold aP at hj;rw[qI e] at hj;exact hj
theorem uO (now:Int)(s:SS)(i:Int):(s.wake1 now i).L=s.L/\(s.wake1 now i).kd=s.kd/\(s.wake1 now i).A=s.A/\(s.wake1 now i).lv=s.lv/\(∀j,((s.wake1 now i).e j).c=(s.e j).c/\((s.wake1 now i).e j).q=(s.e j).q):=by refine⟨rfl,rfl,rfl,rfl,λj=>?_⟩;unfold SS.wake1 SS.setE ay;simp only[];split<;>rename_i e<;>first|(rw[e];exact⟨rfl,rfl⟩)|exact⟨rfl,rfl⟩
theorem mU (now:Int):∀(xs:List Int)(s:SS),(xs.foldl (SS.wake1 now) s).L=s.L/\(xs.foldl (SS.wake1 now) s).kd=s.kd/\(xs.foldl (SS.wake1 now) s).A=s.A/\(xs.foldl (SS.wake1 now) s).lv=s.lv/\(∀j,((xs.foldl (SS.wake1 now) s).e j).c=(s.e j).c/\((xs.foldl (SS.wake1 now) s).e j).q=(s.e j).q)
 | [],s=>⟨rfl,rfl,rfl,rfl,λ_=>⟨rfl,rfl⟩⟩
 | x::r,s=>by obtain⟨h1,h2,h3,h4,h5⟩:=mU now r (s.wake1 now x);obtain⟨g1,g2,g3,g4,g5⟩:=uO now s x;exact⟨h1.trans g1,h2.trans g2,h3.trans g3,h4.trans g4,λj=>⟨(h5 j).1.trans (g5 j).1,(h5 j).2.trans (g5 j).2⟩⟩
theorem iE:∀{xs:List Int} {K:Int->List Int},∀y ∈ (bo K xs).1,y ∈ xs
 | [],_,y,h=>h
 | [i],_,y,h=>h
 | i::p::r,K,y,h=>by
  unfold bo at h;split at h
  ·rcases qC.1 h with h|h
   ·simp[h]
   ·exact qb _ (iE y h)
  ·simp at h;simp[h]
theorem rE:∀{xs:List Int} {K:Int->List Int},(bo K xs).1.length<=xs.length
 | [],_=>qR _
 | [i],_=>qR _
 | i::p::r,K=>by
  unfold bo;split
  ·have:=rE (xs:=p::r) (K:=ay K p (dM i (K p)));simp only[mD] at*;omega
  ·simp
theorem DZ (o:aU)(a:Ad)(s:SS)(now i h:Int)(xs:List Int)(c:CD)(b:Nat)(w:ϖ)(H:ar o w a s)(W:s.Wf)(VY:∀p j q,s.kd p j=some q->0<=q.1/\q.1<=Mc)(hc:fc s.L i=some c)(LY:c.lf=true)(hq:(s.e i).q≠[])(hb:lk i a.LB=some (ψ b))(hnow:0<=now/\now<=4611686018427387904)(hh:-Mc<=h/\h<=Mb)(hs:eZ c=true->cj s.L i xs/\xs≠[]/\xs.length<=1000/\s.A.is i=false):Calls Ψ 128 #[a.S,now,b,ι ε h] w λe w'=>e=ϰ (χ #[])/\∃o',ar o' w' a (s.wake now i h xs)/\(∀x,x<w.heap.size->o' x=o x)/\KO (λx=>(o x).mine) w w':=by
 obtain⟨S',T',NC,E',A',⟨TU,V',QQ⟩,Nf,D',oS,oT,oM,Uq,Us⟩:=id H;obtain⟨b2,qv,Kx,KU,E0,-⟩:=E'.out hc;have eb:=iZ (hb.symm.trans Kx);subst eb;obtain⟨X0,ob,Q',ok⟩:=E0;have X':aj w b qv (s.e i):=X0;have P':(s.e i).c.id=i:=by rw[KU];exact(aM hc).2
 obtain⟨rl,Nv⟩:=Nq (SS.real (s.e i).c);have rng:0<=(s.e i).c.r0/\0<=(s.e i).c.r1/\0<=(s.e i).c.r2:=by rw[KU];exact(T'.2.2 c (aM hc).1).2.2.1
 have rk:=py rng (by rw[KU];exact(W.cls c (aM hc).1).1);have Mo:=W.lvs;have TV:=W.len;have okd:=ok.1;have okn:=(show 0<=now/\now<=Mc by omega);obtain⟨L2,Nx⟩:=Nq (((s.e i).du.woke (s.e i).c.r0 (s.e i).c.r1 (s.e i).c.r2 now).headed h);have Se:L2.ok/\(0<=L2.e/\L2.e<=Ma)/\(0<=L2.t/\L2.t<=Ma):=by rw[<- Nx];exact CS rk.1 rk.2.1.1 rk.2.2 okn okd
 obtain⟨s1,Lv⟩:=Nq (if rl then s.duesTo i L2 else s);change Hid _ at P' KU QQ Mo ok;have Qy:=ag Nv;change Hid _ at Lv Nx;clear Nv T' NC E' A' Nf D' Kx;have Rr:=S'.r;have KD:=((aj.c1 X').trans τU);go_in;go_wp2_with (refine aj.lcl X' (.tmp 23) ρs ρs ρs ?_);go_wp2_with fail;refine(rb _ (s.e i).c.id (s.e i).c.par (s.e i).c.lf (s.e i).c.r0 (s.e i).c.r1 (s.e i).c.r2 (s.e i).c.l0 (s.e i).c.l1 (s.e i).c.l2 (s.e i).c.u0 (s.e i).c.u1 (s.e i).c.u2 (s.e i).c.pk (s.e i).c.by_ rng rl Qy.out).mono ?_;rintro e v1 ⟨rfl,kx⟩;obtain⟨Lp,LH,Ww,I'⟩:=Mw kx (θ4 S' X' Q' (Ks (λy=>y=b) w));clear kx S' Q';replace Rr:=Lp.r;replace KD:=((aj.c1 LH).trans τU);go_upto_if 25 with (fail);go_cut [8] (λs8 wx=>s8=ι ε i/\∃o1,ar o1 wx a s1/\(∀x,x<w.heap.size->o1 x=o x)/\KO (λx=>(o x).mine) w wx);case first=>
  rcases rl with _|_
  ·have he:s=s1:=by have:=Lv.out;simpa using this
   replace he:=ag he;go_wp2;go_meet;exact⟨rfl,o,((H.entTo hc hb KU.out (I'.step0 ρE) τn ⟨LH.below ρE,ob,Ww.below ρE,ok.out⟩).same (kJ s i)).same he.out,λ_ _=>rfl,(I'.step0 ρE).mono σL⟩
  have he:s.duesTo i L2=s1:=by have:=Lv.out;simpa using this
  replace he:=ag he;go_wp2_with fail;refine bR (θ4 I' Lp LH Ww) ?_;clear Rr;rintro v2 ⟨J',MT,LU,UE⟩ Rr;replace KD:=((aj.c1 LU).trans τU);have Og:=af MT;have KS:=λd os=>((aj.c1 (LU.below (qW _ d os))).trans τU);refine Ws 15 (oR ?_)
  repeat (first
   | (refine aj.qdu LU (.tmp 29) ρs ρs ρs ?_;(try simp only[Act.put,List.setIfInBounds_toArray,List.set_cons_succ,List.set_cons_zero]))
   | (refine aj.qrt LU (.tmp 34) ρs ρs ρs ?_;(try simp only[Act.put,List.setIfInBounds_toArray,List.set_cons_succ,List.set_cons_zero]))
   | (go_big_quiet_step ((first
    | (go_at_call 154;(with_reducible exact cD (AI (s.e i).du L2 _ _ _ now h _ rk.1 rk.2.1 rk.2.2 okn okd hh Nx.out)))))))
  refine bE (θ4 MT LU UE J') ?_;clear Rr;rintro v3 ⟨MU,LW,Yv,Kk⟩ Rr;replace KD:=((aj.c1 LW).trans τU);clear Og KS MT LU UE;refine aj.sdu LW L2 (.tmp 40) (.tmp 38) ρs ρs ρs ρs ?_;intro v4 LX kx zx;have OM:=MU.ko kx τM;have Xk:=Yv.ko kx (λy e f=>by (try dsimp only at f);rw[f,ob] at e;cases e);have Km:KO (λy=>y=b) w v4:=Kk.trans kx σg;replace Rr:=OM.r;replace KD:=((aj.c1 LX).trans ρu);replace KL:=(aj.c36 LX);replace MA:=(aj.c37 LX);have H4:=H.entTo hc hb (x:={s.e i with du:=L2}) KU.out Km τn ⟨LX,ob,Xk,⟨Se.1,Se.2.1,Se.2.2,ok.out.2.2.2⟩⟩;have Zk:KO (λx=>(o x).mine) w v4:=Km.mono σL;have V4:=V'.ko Km σ2;clear kx zx Km X';have Km:=Zk;clear Zk;go_wp2_with fail;refine bR (θ5 Km H4 V4 OM LX) ?_;clear Rr;rintro v5 ⟨Kw,H5,V5,NE,LA⟩ Rr;replace KD:=((aj.c1 LA).trans ρu);replace KL:=(aj.c36 LA);replace MA:=(aj.c37 LA);have Og:=af NE;have KS:=λd os=>((aj.c1 (LA.below (qW _ d os))).trans ρu);have Lg:=λd os=>(aj.c36 (LA.below (qW _ d os)));have Oh:=λd os=>(aj.c37 (LA.below (qW _ d os)));refine Ws 15 (gH ?_);refine bE (θ5 H5 V5 NE LA Kw) ?_;clear Rr;rintro v6 ⟨H6,V6,Pa,MP,KH⟩ Rr;replace KD:=((aj.c1 MP).trans ρu);replace KL:=(aj.c36 MP);replace MA:=(aj.c37 MP);clear Og KS Lg Oh H5 V5 NE LA;go_wp2_with fail;refine(Ao a.LV s.lv TU i L2.e L2.t (s.L.map CD.id) _ V6 Se.2.1 Se.2.2 (λj hj=>jh ((Mo.out j hj).imp λc h=>h.1)) (by rw[nl];omega)).mono ?_;rintro e v7 ⟨rfl,TT⟩;have H7:=H6.lvTo QQ.out TT;obtain⟨fp7,_,_,kx⟩:=TT;have z6:=KH.size;have YZ:∀x,x<w.heap.size->o.more v6 .lv x=o x:=λx hx=>aU.more_lt ρa;have KV:=KH.trans kx τz;clear kx H6 V6;go_wp2;go_meet;exact⟨rfl,_,(H7.below ρE).same he.out,YZ,KV.step0 ρE⟩
 case rest=>
  obtain⟨rfl,o1,H1,Wi,I'⟩:=hcut
  rename ϖ=>w1
  clear Lp LH Ww KD V' X';have eL:s1.L=s.L/\s1.A=s.A/\s1.kd=s.kd/\(∀j,(s1.e j).c=(s.e j).c):=by
   rw[<- Lv.out];split
   ·refine⟨rfl,rfl,rfl,λj=>?_⟩;unfold SS.duesTo SS.setE ay;simp only[];split<;>rename_i e<;>first|(rw[e])|rfl
   ·exact⟨rfl,rfl,rfl,λ_=>rfl⟩
  have W1:s1.Wf:=by rw[<- Lv.out];split;exact Wf.duesTo W hc LY;exact W
  have Ub:fc s1.L i=some c:=by rw[eL.1];exact hc
  obtain⟨Lp,MD,O6,E'1,Qf,-,-,-,-⟩:=id H1;obtain⟨b2,qv2,Kx,hcc1,LH,ob1,ok1⟩:=E'1.at Ub;have eb:=iZ (hb.symm.trans Kx);subst eb;have rng1:0<=(s1.e i).c.l0/\0<=(s1.e i).c.l1/\0<=(s1.e i).c.l2:=by rw[hcc1];exact(MD.2.2 c (aM Ub).1).2.2.2.1
  obtain⟨z,hz⟩:=Nq (dv (Go.Proofs.YtfdlemkplejdnaaGreat.kd (s1.e i).c.l0 (s1.e i).c.l1 (s1.e i).c.l2));have MH:eZ c=z:=by rw[<- hz,hcc1];rfl
  have hwk:s.wake now i h xs=if z then s1.wakeS now i xs else s1:=by unfold SS.wake;simp only[];rw[Qy.out,Nx.out,Lv.out,KU.out,MH]
  have Ss:=Lp.r;change Hid _ at hz hwk hcc1 MH;have eL0:=eL;replace eL:=ag eL;clear eL0;go_wp2_with (refine aj.lcl LH (.tmp 59) ρs ρs ρs ?_);go_wp2_with fail;refine(lb _ (s1.e i).c.id (s1.e i).c.par (s1.e i).c.lf (s1.e i).c.r0 (s1.e i).c.r1 (s1.e i).c.r2 (s1.e i).c.l0 (s1.e i).c.l1 (s1.e i).c.l2 (s1.e i).c.u0 (s1.e i).c.u1 (s1.e i).c.u2 (s1.e i).c.pk (s1.e i).c.by_ rng1 z hz.out).mono ?_;rintro e y2 ⟨rfl,kx⟩;obtain⟨H2,J'⟩:=Mw kx (θ2 H1 I');have z2:=kx.size;have MT:=Lp.below kx Lp.size;clear Lp LH O6 E'1 Qf kx H1 I';replace Ss:=MT.r;rcases z with _|_
  ·have he:s1=s.wake now i h xs:=by have:=hwk.out;simpa using this.symm
   replace he:=ag he;go_wp2;go_returns;exact⟨rfl,o1,(H2.below ρE).same he.out,Wi,J'.step0 ρE⟩
  obtain⟨hp,ML,hx,hi⟩:=hs MH.out;rw[<- eL.out.1] at hp;rw[<- eL.out.2.1] at hi;replace hi:=ag hi;go_wp2_with fail;refine(FN s1.A a.ON a.A a.O a.C o1 s1.L i xs c _ H2.2.2.2.2.1 Ub MH.out LY hi.out hp W1.nz ML hx).mono ?_;rintro e v3 ⟨u,rfl,G3,o3,A3,oe,kx⟩;have H3:=H2.actTo A3 oe kx;have Zn:∀x,x<w.heap.size->o3 x=o x:=λx hx=>(oe x (by have:=J'.size;omega)).trans (Wi x hx);have Kk:=J'.trans kx (by intro x hx f;(try dsimp only at f);rw[Wi x hx] at f;show TG.mine _;intro e;rw[e] at f;exact f);obtain⟨ys,KR⟩:=Nq ((bo s1.A.K xs).1);rw[KR] at G3;have QY:ys.length<=1000:=by rw[<- KR];exact qK rE hx
  have RU:∀y ∈ ys,∃c,fc s.L y=some c:=by rw[<- KR,<- eL.out.1];exact λy hy=>eV (lH W1.nz hp) y (iE y hy)
  obtain⟨oa,oc,rfl⟩:=G3.slice;obtain⟨s3,NK⟩:=Nq ({s1 with A:=⟨ay s1.A.on i true,(bo s1.A.K xs).2⟩}:SS);have W3:s3.Wf:=by rw[<- NK];exact Wf.of_same W1 rfl W1.ec (λ_ _ h=>h) (λ_ h=>h)
  have e3:s3.L=s.L/\s3.kd=s.kd:=by rw[<- NK];exact⟨eL.out.1,eL.out.2.2.1⟩
  rw[NK] at H3;have NG:s.wake now i h xs=(ys.foldl (SS.wake1 now) s3).settle xs:=by rw[hwk.out];simp only[if_true];unfold SS.wakeS;rw[KR,NK]
  have z3:=Kk.size;change Hid _ at NG NK KR RU;clear MT A3 kx H2 hwk;go_wp2_with fail;go_loopw [74] (λk wr=>∃(a1 b1:List Int),k=ι ε (a1.length:Nat)/\ys=a1++b1/\ar o3 wr a (a1.foldl (SS.wake1 now) s3)/\HI wr y2 (ζ oa ys.length oc) ys/\KO (λx=>(o x).mine) w wr) (λk _=>ys.length - (intOf k).toNat);case atStart=>exact⟨[],ys,rfl,rfl,H3,G3,Kk⟩
  case round=>
   obtain⟨a1,b1,rfl,Kq,H0,G0,Kj⟩:=hrel;clear H3 G3 Kk;have Kv:a1.length+b1.length=ys.length:=by rw[Kq,qL]
   obtain⟨q,hq⟩:=Nq a1.length;rw[hq] at Kv ⊢;have zw:=Kj.size;obtain⟨j1,j2,j3,j4,j5⟩:=mU now a1 s3;cases b1 with
   | nil=>have Ku:¬q<ys.length:=ρo;have hd:=qF Ku;have Rw:a1=ys:=ρQ;rw[Rw] at H0 j1 j2 j3 j4 j5;change Hid _ at Kv hq;clear Kq Rw;have W7:(ys.foldl (SS.wake1 now) s3).Wf:=Wf.of_same W3 j1 (λj c hc=>by rw[(j5 j).1];exact W3.ec j c hc) (λp j h=>by rw[j2] at h;exact h) (λj h=>by rw[<- j4];exact h);go_wp2_with fail;refine(ju o3 a _ i xs _ (H0.below ρE) W7 (by rw[j1,e3.1,<- eL.out.1];exact lH W1.nz hp) hx).mono ?_;rintro e v9 ⟨rfl,o9,H9,oe9,kx⟩;have z9:=kx.size;have Ll:=Kj.trans kx (by intro x hx f;(try dsimp only at f);rw[Zn x hx] at f;exact f);go_wp2_with fail;go_end0;exact⟨rfl,o9,(H9.below ρE).same NG.out.symm,λx hx=>(oe9 x ρa).trans (Zn x hx),Ll.step0 ρE⟩
   | cons x r=>
    have Ku:q<ys.length:=ρo;have hd:=qT Ku;have NI:ys[q]?=some x:=ρI;have KI:ys≠[]:=ρS;obtain⟨d,VN⟩:=RU.out x ρS;have My:(a1++[x]).foldl (SS.wake1 now) s3=(a1.foldl (SS.wake1 now) s3).wake1 now x:=by rw[List.foldl_append];rfl
    have NR:fc (a1.foldl (SS.wake1 now) s3).L x=some d:=by rw[j1,e3.1];exact VN
    have ekd:(a1.foldl (SS.wake1 now) s3).kd=s.kd:=j2.trans e3.2;have W5:(a1.foldl (SS.wake1 now) s3).Wf:=Wf.of_same W3 j1 (λj c hc=>by rw[(j5 j).1];exact W3.ec j c hc) (λp j h=>by rw[j2] at h;exact h) (λj h=>by rw[<- j4];exact h);obtain⟨s5,XQ⟩:=Nq (a1.foldl (SS.wake1 now) s3);rw[XQ] at H0 My NR ekd W5;clear j1 j2 j3 j4 j5;obtain⟨Vd,OA,g0,e0,KY,e1,_⟩:=ae.at G0 (λ_=>rfl);have e1:=e1 KI;obtain⟨rfl,-,rfl⟩:=qV e0;subst e1;obtain⟨cx,gx,bx⟩:=HI.cell G0 q x NI;obtain⟨Te,ZW,NL,Ys,-,-,N6,ZB,oS5,-⟩:=id H0;obtain⟨b5,qv5,Lq,N9,E5,-⟩:=Ys.out NR;obtain⟨X5,Sd,Q'0,OW⟩:=E5;have Sw:aj wr b5 qv5 (s5.e x):=X5;obtain⟨p,WK⟩:=Nq ((s5.e x).c.par);have Nj:bT s5.L p=true:=by rw[<- WK,N9];exact W5.tree d (aM NR).1
    obtain⟨t,fp,ht,Yx,OD,-⟩:=ZB.out Nj;have kl:=py (by rw[N9];exact(ZW.2.2 d (aM NR).1).2.2.2.1:0<=(s5.e x).c.l0/\0<=(s5.e x).c.l1/\0<=(s5.e x).c.l2) (by rw[N9];exact(W5.cls d (aM NR).1).2.1.1);have ku:=py (by rw[N9];exact(ZW.2.2 d (aM NR).1).2.2.2.2:0<=(s5.e x).c.u0/\0<=(s5.e x).c.u1/\0<=(s5.e x).c.u2) (by rw[N9];exact(W5.cls d (aM NR).1).2.2);obtain⟨lw,hlw⟩:=Nq (kD (s5.kd p));have rlw:0<=lw/\lw<=Mc:=by rw[<- hlw,ekd];exact rt (VY p)
    obtain⟨lk,hlk2⟩:=Nq (pC (s5.kd p));obtain⟨tt,Zd⟩:=Nq ((s5.e x).tot);have rtt:0<=tt/\tt<=Ma:=by have:=OW.2.2.2.2.2.2.2;omega
    obtain⟨Vf,Rv⟩:=Nq ((s5.e x).sh.wake (s5.e x).c.l0 (s5.e x).c.l1 (s5.e x).c.l2 lw tt);have Uw:=xn (p:=tt) kl.1 kl.2.1.1 kl.2.2 rlw rtt OW.2.2.2.1;rw[Rv] at Uw;obtain⟨UK,hcp⟩:=Nq ((s5.e x).cp.capped (s5.e x).c.u0 (s5.e x).c.u1 (s5.e x).c.u2 now tt);have Uu:=wi (p:=tt) ku.1 ku.2.1.1 ku.2.2 okn rtt OW.2.2.2.2.2.1;rw[hcp] at Uu;have ocs:(s5.e x).sh.r.ok:=OW.2.2.2.1;have occ:(s5.e x).cp.r.ok:=OW.2.2.2.2.2.1;have Uj:s5.wake1 now x=s5.setE x {s5.e x with sh:=Vf,cp:=UK}:=by unfold SS.wake1;rw[WK,hlw,Zd,Rv,hcp]
    change Hid _ at Kq hq KY Kv XQ My WK Lq ht NR N9 hlw hlk2 Zd Rv hcp Uj ekd OW;have hfp0:=OD;clear KI Ys ZB ZW OD Nj VN;have nby:¬a.BY=b5:=λe=>aC X5 NL e.symm;have nkm:¬a.KM=b5:=λe=>aC X5 N6 e.symm;have nfp:∀y,fp y->¬y=b5:=λy hy e=>by have h1:=hfp0 y hy;rw[e,Sd] at h1;cases h1
    have k000:KO (λy=>y=b5) wr wr:=KO.refl _ _;have k0m:=Kj;clear Kj;have Kj:=k000;clear k000;replace Ss:=Te.r;have Lh:=((am Δ Θ NL x (z:=Kp) ρm).2.trans ρV);have Ln:=((am Γ Θ N6 p (z:=Kp) ρm).2.trans ρT);have KD:=((aj.c2 Sw).trans ρN);have KL:=((aj.c15 Sw).trans ρP);go_upto_region 10 with (fail);refine bR (θ8 Kj Te NL Sw N6 Yx Q'0 G0) ?_;clear Rr Ss;rintro v1 ⟨I',Lp,O6,LH,Mz,Wx,Ww,G1⟩ Rr;replace Lh:=((am Δ Θ O6 x (z:=Kp) ρm).2.trans ρV);replace Ln:=((am Γ Θ Mz p (z:=Kp) ρm).2.trans ρT);replace KD:=((aj.c2 LH).trans ρN);replace KL:=((aj.c15 LH).trans ρP);have Og:=af Lp;have Mq:=λd os=>((am Δ Θ (O6.grow d os) x (z:=Kp) ρm).2.trans ρV);have KS:=λd os=>((aj.c2 (LH.below (qW _ d os))).trans ρN);have Lg:=λd os=>((aj.c15 (LH.below (qW _ d os))).trans ρP);have Ms:=λd os=>((am Γ Θ (Mz.grow d os) p (z:=Kp) ρm).2.trans ρT);refine Wq ?_
    repeat (go_big_quiet_step ((first
      | (go_at_call 156;(with_reducible exact cD (GW t (s5.kd p) fp _ (Wx.below (qW _ _ _)) lw lk hlw.out hlk2.out))))))
    refine bE (θ8 Lp O6 LH Mz Wx Ww G1 I') ?_;clear Rr;rintro v2 ⟨MT,Qh,LU,PE,T02,UE,G2,J'⟩ Rr;replace Lh:=((am Δ Θ Qh x (z:=Kp) ρm).2.trans ρV);replace Ln:=((am Γ Θ PE p (z:=Kp) ρm).2.trans ρT);replace KD:=((aj.c2 LU).trans ρN);replace KL:=((aj.c15 LU).trans ρP);clear Og Mq KS Lg Ms Lp O6 LH Mz Wx Ww G1;go_wp2_with fail;refine bR (θ8 J' MT Qh LU PE T02 UE G2) ?_;clear Rr;rintro v3 ⟨Kk,MU,Si,LW,Ow,T03,Yv,G3⟩ Rr;replace Lh:=((am Δ Θ Si x (z:=Kp) ρm).2.trans ρV);replace Ln:=((am Γ Θ Ow p (z:=Kp) ρm).2.trans ρT);replace KD:=((aj.c2 LW).trans ρN);replace KL:=((aj.c15 LW).trans ρP);have Og:=af MU;have Mq:=λd os=>((am Δ Θ (Si.grow d os) x (z:=Kp) ρm).2.trans ρV);have KS:=λd os=>((aj.c2 (LW.below (qW _ d os))).trans ρN);have Lg:=λd os=>((aj.c15 (LW.below (qW _ d os))).trans ρP);have Ms:=λd os=>((am Γ Θ (Ow.grow d os) p (z:=Kp) ρm).2.trans ρT);refine Ws 18 (oR ?_)
    repeat (first
     | (refine aj.qsh LW (.tmp 101) ρs ρs ρs ?_;(try simp only[Act.put,List.setIfInBounds_toArray,List.set_cons_succ,List.set_cons_zero]))
     | (refine aj.qls LW (.tmp 106) ρs ρs ρs ?_;(try simp only[Act.put,List.setIfInBounds_toArray,List.set_cons_succ,List.set_cons_zero]))
     | (go_big_quiet_step ((first
      | (go_at_call 157;(with_reducible exact cD (xx (s5.e x).sh Vf _ _ _ lw tt _ kl.1 kl.2.1 kl.2.2 rlw rtt ocs Rv.out)))))))
    refine bE (θ8 MU Si LW Ow T03 Yv G3 Kk) ?_;clear Rr;rintro v4 ⟨OM,BY'4,LX,Xc,T04,Xk,G4,Km⟩ Rr;replace Lh:=((am Δ Θ BY'4 x (z:=Kp) ρm).2.trans ρV);replace Ln:=((am Γ Θ Xc p (z:=Kp) ρm).2.trans ρT);replace KD:=((aj.c2 LX).trans ρN);replace KL:=((aj.c15 LX).trans ρP);clear Og Mq KS Lg Ms MU Si LW Ow T03 Yv G3;have XB:=LX;have XG:=G4;refine aj.ssh LX Vf (.tmp 115) (.tmp 113) ρs ρs ρs ρs ?_;intro v5 LA kx zx;have NE:=OM.ko kx ρY;have Vi:=BY'4.ko kx ρY;have KM'5:=Xc.ko kx ρY;have T05:=T04.ko kx (λy hy f=>nfp y hy f);have ZO:=Xk.ko kx σD;have G5:=G4.ko kx σh;have Kw:KO (λy=>y=b5) wr v5:=Km.trans kx σg;replace Rr:=NE.r;replace Lh:=((am Δ Θ Vi x (z:=Kp) ρm).2.trans ρV);replace Ln:=((am Γ Θ KM'5 p (z:=Kp) ρm).2.trans ρT);replace KD:=((aj.c2 LA).trans ρN);replace KL:=((aj.c15 LA).trans ρP);clear kx zx XB XG LX;simp only[Act.put];go_wp2_with fail;refine bR (θ8 Kw NE Vi LA KM'5 T05 ZO G5) ?_;clear Rr;rintro v6 ⟨KH,Pa,WX,MP,Xd,T06,Q'6,G6⟩ Rr;replace Lh:=((am Δ Θ WX x (z:=Kp) ρm).2.trans ρV);replace Ln:=((am Γ Θ Xd p (z:=Kp) ρm).2.trans ρT);replace KD:=((aj.c2 MP).trans ρN);replace KL:=((aj.c15 MP).trans ρP);have Og:=af Pa;have Mq:=λd os=>((am Δ Θ (WX.grow d os) x (z:=Kp) ρm).2.trans ρV);have KS:=λd os=>((aj.c2 (MP.below (qW _ d os))).trans ρN);have Lg:=λd os=>((aj.c15 (MP.below (qW _ d os))).trans ρP);have Ms:=λd os=>((am Γ Θ (Xd.grow d os) p (z:=Kp) ρm).2.trans ρT);refine Ws 18 (oR ?_)
    repeat (first
     | (refine aj.qcp MP (.tmp 119) ρs ρs ρs ?_;(try simp only[Act.put,List.setIfInBounds_toArray,List.set_cons_succ,List.set_cons_zero]))
     | (refine aj.qul MP (.tmp 124) ρs ρs ρs ?_;(try simp only[Act.put,List.setIfInBounds_toArray,List.set_cons_succ,List.set_cons_zero]))
     | (go_big_quiet_step ((first
      | (go_at_call 158;(with_reducible exact cD (xE (s5.e x).cp UK _ _ _ now tt _ ku.1 ku.2.1 ku.2.2 okn rtt occ hcp.out)))))))
    refine bE (θ8 Pa WX MP Xd T06 Q'6 G6 KH) ?_;clear Rr;rintro v7 ⟨Tf,BY'7,Pd,KM'7,T07,Q'7,G7,KV⟩ Rr;replace Lh:=((am Δ Θ BY'7 x (z:=Kp) ρm).2.trans ρV);replace Ln:=((am Γ Θ KM'7 p (z:=Kp) ρm).2.trans ρT);replace KD:=((aj.c2 Pd).trans ρN);replace KL:=((aj.c15 Pd).trans ρP);clear Og Mq KS Lg Ms Pa WX MP Xd T06 Q'6 G6;have XB:=Pd;have XG:=G7;refine aj.scp Pd UK (.tmp 133) (.tmp 131) ρs ρs ρs ρs ?_;intro v8 Pe kx zx;have RM:=Tf.ko kx ρY;have BY'8:=BY'7.ko kx ρY;have KM'8:=KM'7.ko kx ρY;have T08:=T07.ko kx (λy hy f=>nfp y hy f);have Q'8:=Q'7.ko kx σD;have G8:=G7.ko kx σh;have KZ:KO (λy=>y=b5) wr v8:=KV.trans kx σg;replace Rr:=RM.r;replace Lh:=((am Δ Θ BY'8 x (z:=Kp) ρm).2.trans ρV);replace Ln:=((am Γ Θ KM'8 p (z:=Kp) ρm).2.trans ρT);replace KD:=((aj.c2 Pe).trans ρN);replace KL:=((aj.c15 Pe).trans ρP);have H8:=H0.entTo (i:=x) (x:={s5.e x with sh:=Vf,cp:=UK}) NR.out Lq.out N9.out KZ (λk e=>.inl (by rw[e];exact Sd)) ⟨Pe,Sd,Q'8,⟨OW.out.1,OW.out.2.1,OW.out.2.2.1,Uw.1,Uw.2,Uu.1,Uu.2,OW.out.2.2.2.2.2.2.2⟩⟩;have k0e:=k0m.trans KZ (by intro z hz e;show TG.mine _;(try dsimp only at e);rw[<- Zn z hz,e,Sd];simp[TG.mine]);clear kx zx XB XG;go_wp2;go_roundw;case rel=>exact⟨a1++[x],r,by rw[qL,hq.out];go_num,by rw[Kq.out];simp,by rw[My.out,Uj.out];exact H8.below ρE,ae.below G8 ρE,k0e.step0 ρE⟩
    case measure=>exact ξb
theorem aj.fr {w:ϖ} {b:Nat} {qv:ϗ} {x:EN} (h:aj w b qv x):∀i,w.frozen? ⟨b,i,none⟩=false:=ah.frozen h
theorem aj.set15 {w:ϖ} {b:Nat} {qv:ϗ} {x:EN} (h:aj w b qv x)(t:Int):aj (w.setCell ⟨b,15,none⟩ t) b qv {x with tot:=t}:=by have:=ah.set_same (w:=w) (B:=b) (cs:=pe x qv) (cs':=pe {x with tot:=t} qv) (t:=244) (i:=15) (v:=t) h ρi;exact this
theorem uC (n:Int)(s:SS)(i:Int):(s.take1 n i).L=s.L/\(s.take1 n i).kd=s.kd/\(s.take1 n i).A=s.A/\(s.take1 n i).lv=s.lv/\(∀j,((s.take1 n i).e j).c=(s.e j).c/\((s.take1 n i).e j).q=(s.e j).q/\((s.take1 n i).e j).du=(s.e j).du):=by refine⟨rfl,rfl,rfl,rfl,λj=>?_⟩;unfold SS.take1 SS.setE ay;simp only[];split<;>rename_i e<;>first|(rw[e];exact⟨rfl,rfl,rfl⟩)|exact⟨rfl,rfl,rfl⟩
theorem ie (n:Int):∀(xs:List Int)(s:SS),(xs.foldl (SS.take1 n) s).L=s.L/\(xs.foldl (SS.take1 n) s).kd=s.kd/\(xs.foldl (SS.take1 n) s).A=s.A/\(xs.foldl (SS.take1 n) s).lv=s.lv/\(∀j,((xs.foldl (SS.take1 n) s).e j).c=(s.e j).c/\((xs.foldl (SS.take1 n) s).e j).q=(s.e j).q/\((xs.foldl (SS.take1 n) s).e j).du=(s.e j).du)
 | [],s=>⟨rfl,rfl,rfl,rfl,λ_=>⟨rfl,rfl,rfl⟩⟩
 | x::r,s=>by obtain⟨h1,h2,h3,h4,h5⟩:=ie n r (s.take1 n x);obtain⟨g1,g2,g3,g4,g5⟩:=uC n s x;exact⟨h1.trans g1,h2.trans g2,h3.trans g3,h4.trans g4,λj=>⟨(h5 j).1.trans (g5 j).1,(h5 j).2.1.trans (g5 j).2.1,(h5 j).2.2.trans (g5 j).2.2⟩⟩
theorem sS {n:Int} {s:SS} {i j:Int} (h:j≠i):(s.take1 n i).e j=s.e j:=by unfold SS.take1 SS.setE ay;exact qI h
theorem iP {n:Int}:∀{xs:List Int} {s:SS} {j:Int},j ∉ xs->(xs.foldl (SS.take1 n) s).e j=s.e j
 | [],_,_,_=>rfl
 | x::r,s,j,h=>by simp at h;show (r.foldl (SS.take1 n) (s.take1 n x)).e j=_;rw[iP h.2,sS h.1]
theorem Wf.due {s:SS} (h:s.Wf) {i len:Int} {b:Bool} {c:CD} (hc:fc s.L i=some c)(hl:c.lf=true):(s.due i len b).Wf/\(s.due i len b).L=s.L/\(s.due i len b).A=s.A/\(∀j,((s.due i len b).e j).c=(s.e j).c/\((s.due i len b).e j).q=(s.e j).q):=by
 have ee:∀(l:LF) j,((s.duesTo i l).e j).c=(s.e j).c/\((s.duesTo i l).e j).q=(s.e j).q:=λl j=>ηM
 unfold SS.due;split
 ·simp only[];have W2:=λ(l:LF)=>Wf.duesTo (l:=l) h hc hl;split
  ·refine⟨Wf.of_same (W2 _) rfl (W2 _).ec (λ_ _ h=>h) (λj hj=>?_),rfl,rfl,ee _⟩;have QR:aP (s.duesTo i _).lv i none j≠none:=hj;unfold aP at QR;split at QR
   ·exact ax rfl QR
   ·exact QR
  ·exact⟨W2 _,rfl,rfl,ee _⟩
 ·exact⟨h,rfl,rfl,λ_=>⟨rfl,rfl⟩⟩
theorem Wf.sleeps:∀(ys:List Int) {s:SS},s.Wf->(ys.foldl SS.sleep1 s).Wf/\(ys.foldl SS.sleep1 s).L=s.L
 | [],_,h=>⟨h,rfl⟩
 | y::r,s,h=>by obtain⟨h1,h2⟩:=Wf.sleeps r (Wf.sleep1 h y);exact⟨h1,h2.trans (fV s y).1⟩
theorem Wf.sleep {s:SS} (h:s.Wf)(i:Int)(up:List Int):(s.sleep i up).Wf/\(s.sleep i up).L=s.L:=by
 unfold SS.sleep;split
 ·exact Wf.sleeps _ (Wf.of_same h rfl h.ec (λ_ _ h=>h) (λ_ h=>h))
 ·exact⟨h,rfl⟩
theorem pR {s:SS} {now i:Int} {b:Bool} {up:List Int} {p:PK} {r:List PK} (hq:(s.e i).q=p::r):s.take now i b up=(if (((up.foldl (SS.take1 p.len) (({s with clk:=now}:SS).setE i {s.e i with q:=r})).due i p.len b).e i).q=[] then ((up.foldl (SS.take1 p.len) (({s with clk:=now}:SS).setE i {s.e i with q:=r})).due i p.len b).sleep i up else (up.foldl (SS.take1 p.len) (({s with clk:=now}:SS).setE i {s.e i with q:=r})).due i p.len b).settle up:=by unfold SS.take;simp only[hq,aw,List.tail_cons]
theorem xq {s:SS} {i:Int} {up:List Int} (h:eZ (s.e i).c=false):s.sleep i up=s:=by unfold SS.sleep;rw[qI (by simp[h])]
theorem xm {c:CH} {p:Int} (oc:c.ok)(ot:an c.t):(c.took p).ok/\(0<=(c.took p).t/\(c.took p).t<=Ma):=by
 unfold CH.took;split
 ·exact⟨oc,RN.time_rng oc p⟩
 ·exact⟨oc,ot⟩
theorem ye {c:CH} {p:Int} (oc:c.ok)(ot:an c.t):(c.fit p).ok/\(0<=(c.fit p).t/\(c.fit p).t<=Ma):=by
 unfold CH.fit;split
 ·have:=RN.reach_rng oc (p*65536);exact⟨oc,by simp only[];omega⟩
 ·exact⟨oc,ot⟩
theorem aj.popq {w:ϖ} {b:Nat} {qv:ϗ} {x:EN} {r:List PK} (h:aj w b qv x):aj w b qv {x with q:=r}:=h
theorem DY (o:aU)(a:Ad)(s:SS)(now:Int)(w:ϖ)(H:ar o w a s)(W:s.Wf)(No:¬now<s.clk/\¬4611686018427387904<now)(htot:∀i c,fc s.L i=some c->(s.e i).tot<=1099511627776)
  (hch0:∀i x,SS.Choose {s with clk:=now} now (some (i,x))->∃c xs p r,fc s.L i=some c/\c.lf=true/\(s.e i).q=p::r/\dB s.L i xs/\xs.length<=1000/\xs.Nodup/\(eZ c=true->cj s.L i xs/\xs≠[]/\s.A.is i=true/\∀y ∈ 0::xs.tail,s.A.K y≠[])):Calls Ψ 129 #[a.S,now] w λe w'=>(∃i x p r c xs,SS.Choose {s with clk:=now} now (some (i,x))/\fc s.L i=some c/\(s.e i).q=p::r/\dB s.L i xs/\e=ϰ (χ #[φ #[ι ε i,p.id,ι ε p.len,ι ω p.h0,ι ω p.h1,ι ω p.h2,ι ω p.h3,β x],fF])/\∃o',ar o' w' a (s.take now i x xs)/\(∀y,y<w.heap.size->o' y=o y)/\KO (λx=>(o x).mine) w w')\/
   (SS.Choose {s with clk:=now} now none/\e=ϰ (χ #[φ #[Kz,Ky,Kz,eK,eK,eK,eK,dO],dO])/\∃o',ar o' w' a {s with clk:=now}/\(∀y,y<w.heap.size->o' y=o y)/\KO (λx=>(o x).mine) w w'):=by
 refine δU ?_;intro H0 S' Ou Zo s0 MK W0;have TN:s0.L=s.L/\s0.e=s.e/\s0.A=s.A:=by rw[<- MK];exact⟨rfl,rfl,rfl⟩
 have Sf:=S'.r;go_in;go_upto_region 1 with (fail);refine Jw (θ2 (Ks (λ_=>False) w) S') (λv=>ah v w #[Kz,Ky,Kz,eK,eK,eK,eK,dO] 253) ρB ?_;rintro v1 R1 ⟨I',Lp⟩;replace Sf:=Lp.r;replace rR:=R1.r;have H1:=H0.below I'.toBelow;have z1:=R1.size;go_wp2_with (go_at_call 126;refine(yd (o.more w .no) a s now v1 H1 No.1 No.2).mono ?_;rintro e v2 ⟨rfl,H2,kx⟩;rw[MK] at H2;have TC:¬w=a.S:=(λe=>by have:=S'.size;omega);have R2:=R1.ko kx TC;have z2:=kx.size;replace MK:=ag MK);refine(xX (o.more w .no) a s0 now v2 H2 W0).mono ?_;rintro e v3 ⟨i,Pf,ok,rfl,K8,ky⟩;obtain⟨H3,R3⟩:=Mw ky (θ2 H2 R2);have z3:=ky.size;have Kk:KO (λx=>(o x).mine) w v3:=(((I'.mono (λ_ _ f=>f.elim):KO (λx=>x=a.S) w v1).trans kx σg).trans (KO.of_below (F:=λ_=>False) ky) (λ_ _ f=>f.elim)).mono τ1;clear Sf Lp R1 H1 H2 R2 kx ky I' S' H0;have rR:=R3.r;replace K8:=ag K8;rcases ok with _|_
 ·have Qd:SS.Choose s0 now none:=by rcases K8.out with h|h;(· cases h.1);(· exact h.2.2.2)
  replace Qd:=ag Qd;go_wp2_with fail;refine eR v3 (λx=>x=w.heap.size) (λv=>ah v w #[Kz,Ky,Kz,eK,eK,eK,eK,dO] 253) ρB (λ_ kx=>kx) ?_;rintro v4 R4 kx;replace rR:=R4.r;refine qO (v:=χ #[φ #[Kz,Ky,Kz,eK,eK,eK,eK,dO],dO]) τr rfl ?_;exact .inr ⟨MK.out ▸ Qd.out,rfl,_,(H3.ko kx (λx e=>by (try dsimp only at e);rw[e];exact Zo _ (qR _))).same MK.out.symm,Ou,Kk.trans kx σv⟩
 have MG:SS.Choose s0 now (some (i,Pf)):=by rcases K8.out with h|h;(· exact h.2);(· cases h.1)
 obtain⟨c,xs,p,r,hc,LY,hq,hu,SJ,Oo,Rv⟩:=hch0 i Pf (MK.out ▸ MG);rw[<- TN.1] at hc hu Rv;rw[<- TN.2.1] at hq;rw[<- TN.2.2] at Rv;replace MG:=ag MG;obtain⟨MU,MO,Si,E'3,-,-,-,-,oS,oT,oM,Uq,Us⟩:=id H3;obtain⟨b,qv,hb,KU,E0,-⟩:=E'3.out hc;obtain⟨X0,ob,Q0,ok0⟩:=E0;have LW:aj v3 b qv (s0.e i):=X0;have SE:(s0.e i).c.lf=true:=by rw[KU];exact LY
 unfold ed at Q0;rw[qP SE,hq] at Q0;obtain⟨Q,Qo,rfl,Q3,Pg⟩:=Q0;have RU:∀y ∈ xs,∃c,fc s0.L y=some c:=eV hu;have Mk:1<=p.len/\p.len<=16384:=by obtain⟨R,S,f,ps,k0,k1,k2,k3,k4,k5,B',G,MW,KC,_⟩:=id Q3;exact KC p ρp
 have lB:=((am Δ Θ Si i (z:=Kp) ρm).2.trans (by rw[hb];try rfl));have lX:=aj.c0 LW;have Sf:=MU.r;change Hid _ at hc KU hb hq Pg hu RU Rv TN ok0;clear E'3 MO Si;clear rR;go_wp2_with fail;refine(IU Q _ _ p r Qo v3 Q3).mono ?_;rintro e v4 ⟨rfl,QA4,kx⟩;have nRq:¬Qo w:=λf=>by have:=Pg.out _ f;rw[Zo _ (qR _)] at this;cases this
 have R4:=R3.ko kx nRq;have LX:=LW.ko kx σ9;have H4:=H3.entTo (x:={s0.e i with q:=r}) hc.out hb.out KU.out kx (λy f=>.inr (Pg.out y f)) ⟨aj.popq LX,ob,by unfold ed;rw[qP SE];exact⟨Q,Qo,rfl,QA4,Pg.out⟩,ok0.out⟩;have Km:=Kk.trans kx σF;have z4:=kx.size;obtain⟨s1,Lv⟩:=Nq (s0.setE i {s0.e i with q:=r});rw[Lv] at H4;have e1:s1.L=s0.L/\s1.A=s0.A/\s1.lv=s0.lv/\s1.kd=s0.kd/\(∀j,(s1.e j).c=(s0.e j).c/\(s1.e j).tot=(s0.e j).tot)/\(s1.e i).q=r:=by
  rw[<- Lv];refine⟨rfl,rfl,rfl,rfl,λj=>?_,?_⟩
  ·unfold SS.setE ay;simp only[];split<;>rename_i e<;>first|(rw[e];exact⟨rfl,rfl⟩)|exact⟨rfl,rfl⟩
  ·unfold SS.setE ay;simp
 have W1:s1.Wf:=Wf.of_same W0 e1.1 (λj c h=>by rw[(e1.2.2.2.2.1 j).1];exact W0.ec j c h) (λp j h=>by rw[e1.2.2.2.1] at h;exact h) (λj h=>by rw[e1.2.2.1] at h;exact h);obtain⟨OM,ME,-⟩:=id H4;clear Sf lB lX MU LW LX H3 R3 Kk kx Q3 QA4;change Hid _ at e1 Lv;go_upto_region 8 with (fail);refine Jw (θ4 Km H4 R4 OM) (λv=>ah v (v4) (gT p.id p.len p.h0 p.h1 p.h2 p.h3) 50) ρB ?_;rintro v5 Vq ⟨Kw,H5,R5,NE⟩;replace rR:=R5.r;replace Sf:=NE.r;replace SU:=Vq.r;have z5:=Kw.size;have Px:=H5.2.1;go_wp2_with fail;refine(IF a.T a.M s1.L i xs v5 Px (by rw[e1.out.1];exact hu.out) SJ).mono ?_;rintro e v6 ⟨u,rfl,G6,kx⟩;obtain⟨H6,R6,Vr⟩:=Mw kx (θ3 H5 R5 Vq);have z6:=kx.size;have KH:=Kw.step0 kx;have zp:=Vq.size;obtain⟨oa,oc,rfl⟩:=G6.slice;clear H5 R5 Vq NE Px kx Kw Sf rR SU Km H4 R4 ME OM;go_wp2_with fail;go_loopw [55] (λk wr=>∃(a1 b1:List Int),k=ι ε (a1.length:Nat)/\xs=a1++b1/\ar (o.more w .no) wr a (a1.foldl (SS.take1 p.len) s1)/\HI wr v5 (ζ oa xs.length oc) xs/\ah wr w #[Kz,Ky,Kz,eK,eK,eK,eK,dO] 253/\ah wr v4 (gT p.id p.len p.h0 p.h1 p.h2 p.h3) 50/\KO (λx=>(o x).mine) w wr) (λk _=>xs.length - (intOf k).toNat);case atStart=>exact⟨[],xs,rfl,rfl,H6,G6,R6,Vr,KH⟩
 case round=>
  obtain⟨a1,b1,rfl,Kq,H0,G0,R0,ZL,Kj⟩:=hrel;clear H6 G6 R6 Vr KH;have Kv:a1.length+b1.length=xs.length:=by rw[Kq,qL]
  obtain⟨q,LZ⟩:=Nq a1.length;rw[LZ] at Kv ⊢;have zw:=Kj.size;obtain⟨j1,j2,j3,j4,j5⟩:=ie p.len a1 s1;cases b1 with
  | nil=>
   have Ku:¬q<xs.length:=ρo;have hd:=qF Ku;have Rw:a1=xs:=ρQ;rw[Rw] at H0 j1 j2 j3 j4 j5;change Hid _ at Kv LZ;clear Kq Rw;have W2:(xs.foldl (SS.take1 p.len) s1).Wf:=Wf.of_same W1 j1 (λj c h=>by rw[(j5 j).1];exact W1.ec j c h) (λp j h=>by rw[j2] at h;exact h) (λj h=>by rw[j4] at h;exact h);have hc2:fc (xs.foldl (SS.take1 p.len) s1).L i=some c:=by rw[j1,e1.out.1];exact hc.out
   have MQ:((xs.foldl (SS.take1 p.len) s1).e i).q=r:=(j5 i).2.1.trans e1.out.2.2.2.2.2;have Nx:(xs.foldl (SS.take1 p.len) s1).L=s0.L:=j1.trans e1.out.1;have Tm:(xs.foldl (SS.take1 p.len) s1).A=s0.A:=j3.trans e1.out.2.1;have Qs:((xs.foldl (SS.take1 p.len) s1).e i).c=c:=W2.ec i c hc2;have hs2e:xs.foldl (SS.take1 p.len) s1=xs.foldl (SS.take1 p.len) (({s with clk:=now}:SS).setE i {s.e i with q:=r}):=by rw[<- Lv.out,<- MK.out]
   have TB:=pR (now:=now) (b:=Pf) (up:=xs) (show (s.e i).q=p::r by rw[<- TN.out.2.1];exact hq.out);rw[<- hs2e] at TB;obtain⟨s2,K6⟩:=Nq (xs.foldl (SS.take1 p.len) s1);rw[K6] at H0 W2 hc2 MQ Nx Tm Qs TB;clear j1 j2 j3 j4 j5 hs2e;obtain⟨W3,hL3,VH,he3⟩:=Wf.due (len:=p.len) (b:=Pf) W2 hc2 LY;have hfin0:=TB;have on4:(o.more w .no) v4.heap.size=.no:=Zo _ ρa;have on1:(o.more w .no) w.heap.size=.no:=Zo _ (qR _);change Hid _ at TB MQ Nx Tm Qs K6 hL3 VH he3;clear hfin0 e1 Lv G0;have SU:=ZL.r;go_wp2_with fail;refine(DW (o.more w .no) a s2 i p.len Pf c b wr H0 W2 hc2 LY hb.out ⟨by omega,by omega⟩).mono ?_;rintro e v20 ⟨rfl,o20,H20,oe20,kx⟩;have R20:=R0.ko kx (λf=>f on1);have Xi:=ZL.ko kx (λf=>f on4);have k020:=Kj.trans kx (λx hx f=>by (try dsimp only at f);rw[Ou x hx] at f;exact f);have z20:=kx.size;have We:=(oe20 _ R0.size).trans on1;have Ye:=(oe20 _ ZL.size).trans on4;have Wj:∀x,x<w.heap.size->o20 x=o x:=λx hx=>(oe20 x ρa).trans (Ou x hx);clear kx SU R0 ZL H0 Kj;have hc3:fc (s2.due i p.len Pf).L i=some c:=by rw[hL3.out];exact hc2
   obtain⟨S'20,-,-,E'20,-⟩:=id H20;obtain⟨b2,qv2,Kx,hcc3,⟨X0,ob2,Q0,-⟩,-⟩:=E'20.out hc3;have eb:=iZ (hb.out.symm.trans Kx);subst eb;have X'20:aj v20 b qv2 ((s2.due i p.len Pf).e i):=X0;unfold ed at Q0;rw[qP (by rw[hcc3];exact LY),(he3.out i).2,MQ.out] at Q0;obtain⟨Q2,fp2,rfl,Q20,-⟩:=Q0;have lX:=aj.c0 X'20;have zX:=X'20.size;obtain⟨n,hn⟩:=Nq r.length;clear E'20 X0;go_wp2_with fail;refine(ug Q2 _ _ r fp2 _ Q20).mono ?_;rintro e u ⟨rfl,rfl⟩;rw[hn];by_cases h0:n=0
   rotate_left
   ·have Kr:((n:Int)==0)=false:=by rw[qN];omega
    have NG:s.take now i Pf xs=(s2.due i p.len Pf).settle xs:=by rw[TB.out,qI (λe=>h0 (by rw[<- hn,<- MQ.out,<- (he3.out i).2,e];rfl))]
    change Hid _ at NG hn;go_wp2_with fail;refine(ju o20 a (s2.due i p.len Pf) i xs _ H20 W3 (by rw[hL3.out,Nx.out];exact hu.out) SJ).mono ?_;rintro e v21 ⟨rfl,o21,Yu,Ut,kx⟩;have R21:=R20.ko kx (λf=>f We);have Xj:=Xi.ko kx (λf=>f Ye);have QA:=k020.trans kx (λx hx f=>by (try dsimp only at f);rw[Wj x hx] at f;exact f);have z21:=kx.size;have Wg:=(Ut _ R20.size).trans We;clear kx;have rR:=R21.r;have SU:=Xj.r;have nRP:¬w.heap.size=v4:=ρa;go_wp2_with fail;refine eR v21 (λx=>x=w.heap.size) (λv=>ah v w #[ι ε i,p.id,ι ε p.len,ι ω p.h0,ι ω p.h1,ι ω p.h2,ι ω p.h3,β Pf] 253) ρB (λ_ kx=>kx) ?_;rintro RJ R22 kx;replace rR:=R22.r;refine qO (v:=χ #[φ #[ι ε i,p.id,ι ε p.len,ι ω p.h0,ι ω p.h1,ι ω p.h2,ι ω p.h3,β Pf],fF]) τr rfl ?_;exact .inl ⟨i,Pf,p,r,c,xs,MK.out ▸ MG.out,by rw[<- TN.out.1];exact hc.out,by rw[<- TN.out.2.1];exact hq.out,by rw[<- TN.out.1];exact hu.out,rfl,o21,(Yu.ko kx (λx e=>by (try dsimp only at e);rw[e];exact Wg)).same NG.out.symm,λx hx=>(Ut x ρa).trans (Wj x hx),QA.trans kx σv⟩
   subst h0;have NA:r=[]:=List.length_eq_zero_iff.1 hn;have NG:s.take now i Pf xs=((s2.due i p.len Pf).sleep i xs).settle xs:=by rw[TB.out,qP (by rw[(he3.out i).2,MQ.out];exact NA)]
   obtain⟨W4,hL4⟩:=Wf.sleep W3 i xs;change Hid _ at NG hn NA hL4;rcases RX:eZ c with _|_
   ·have VU:(s2.due i p.len Pf).sleep i xs=s2.due i p.len Pf:=xq (by rw[(he3.out i).1,Qs.out];exact RX);change Hid _ at VU RX;go_wp2_with fail;refine(tH o20 a _ i _ H20 (λd hd=>by rw[hc3] at hd;cases hd;exact RX.out)).mono ?_;rintro e v21 ⟨rfl,kx⟩;have Yu:=(H20.below kx).same VU.out.symm;obtain⟨R21,Xj,QA⟩:=Mw kx (θ3 R20 Xi k020);have z21:=kx.size;have Wg:=We;have nP21:=Ye;have ow21:=Wj;clear kx lX;go_wp2_with fail;refine(ju o20 a ((s2.due i p.len Pf).sleep i xs) i xs _ Yu W4 (by rw[hL4.out,hL3.out,Nx.out];exact hu.out) SJ).mono ?_;exact ξg
   ·obtain⟨hp,ML,hi,hK⟩:=Rv.out RX;change Hid _ at RX hi hK;go_wp2_with fail;refine(Bx o20 a (s2.due i p.len Pf) i xs c _ H20 W3 hc3 RX.out LY (by rw[VH.out,Tm.out];exact hi.out) (by rw[hL3.out,Nx.out];exact hp) ML SJ Oo (by rw[VH.out,Tm.out];exact hK.out)).mono ?_;rintro e v21 ⟨rfl,o21,Yu,Ut,kx⟩;have R21:=R20.ko kx (λf=>f We);have Xj:=Xi.ko kx (λf=>f Ye);have QA:=k020.trans kx (λx hx f=>by (try dsimp only at f);rw[Wj x hx] at f;exact f);have z21:=kx.size;have Wg:=(Ut _ R20.size).trans We;have nP21:=(Ut _ Xi.size).trans Ye;have ow21:∀x,x<w.heap.size->o21 x=o x:=λx hx=>(Ut x ρa).trans (Wj x hx);clear kx lX;go_wp2_with fail;refine(ju o21 a ((s2.due i p.len Pf).sleep i xs) i xs _ Yu W4 (by rw[hL4.out,hL3.out,Nx.out];exact hu.out) SJ).mono ?_;exact ξg
  | cons x r2=>
   have Ku:q<xs.length:=ρo;have hd:=qT Ku;have NI:xs[q]?=some x:=by rw[Kq,<- LZ];simp
   have KI:xs≠[]:=ρS;obtain⟨d,VN⟩:=RU.out x ρS;have My:(a1++[x]).foldl (SS.take1 p.len) s1=(a1.foldl (SS.take1 p.len) s1).take1 p.len x:=by rw[List.foldl_append];rfl
   have NR:fc (a1.foldl (SS.take1 p.len) s1).L x=some d:=by rw[j1,e1.out.1];exact VN
   have hxn:x ∉ a1:=by have:=Oo;rw[Kq] at this;exact λe=>(List.nodup_append.1 this).2.2 x e x ρp rfl
   have Zd:((a1.foldl (SS.take1 p.len) s1).e x).tot<=1099511627776:=by rw[iP hxn,(e1.out.2.2.2.2.1 x).2,TN.out.2.1];exact htot x d (by rw[<- TN.out.1];exact VN)
   obtain⟨s5,XQ⟩:=Nq (a1.foldl (SS.take1 p.len) s1);rw[XQ] at H0 My NR Zd;clear j1 j2 j3 j4 j5;obtain⟨Vd,OA,g0,e0,KY,e1',_⟩:=ae.at G0 (λ_=>rfl);have e1':=e1' KI;obtain⟨rfl,-,rfl⟩:=qV e0;subst e1';obtain⟨cx,gx,bx⟩:=HI.cell G0 q x NI;obtain⟨Te,ZW,NL,Ys,-,-,N6,ZB,oS5,-⟩:=id H0;obtain⟨b5,qv5,Lq,N9,E5,-⟩:=Ys.out NR;obtain⟨X5,Sd,Q0,OW⟩:=E5;have Sw:aj wr b5 qv5 (s5.e x):=X5;obtain⟨tt,XT⟩:=Nq ((s5.e x).tot);have rtt:0<=tt/\tt<=1099511627776:=by rw[<- XT];exact⟨OW.2.2.2.2.2.2.2.1,Zd⟩
   obtain⟨t1,VX⟩:=Nq (tt+p.len);have rt1:0<=t1/\t1<=2199023255552:=ρa;have rt2:0<=t1/\t1<=Ma:=ρa;have Uj:IntKind.u64.wrap p.len=p.len:=qZ _ ⟨by omega,by omega⟩;have XV:IntKind.u64.wrap (tt+p.len)=t1:=by rw[VX];exact qZ _ ⟨by omega,by omega⟩
   obtain⟨Vf,XR⟩:=Nq ((s5.e x).sh.took t1);obtain⟨UK,XC⟩:=Nq ((s5.e x).cp.fit t1);have Uw:Vf.ok/\(0<=Vf.t/\Vf.t<=Ma):=by rw[<- XR];exact xm OW.2.2.2.1 OW.2.2.2.2.1
   have Uu:UK.ok/\(0<=UK.t/\UK.t<=Ma):=by rw[<- XC];exact ye OW.2.2.2.2.2.1 OW.2.2.2.2.2.2.1
   have ocs:(s5.e x).sh.r.ok:=OW.2.2.2.1;have occ:(s5.e x).cp.r.ok:=OW.2.2.2.2.2.1;have ht2:s5.take1 p.len x=s5.setE x {s5.e x with tot:=t1,sh:=Vf,cp:=UK}:=by unfold SS.take1;rw[XT,VX,XR,XC]
   have nR5:¬w=b5:=eq R0 X5 ρf;have nP5:¬v4=b5:=eq ZL X5 ρf;have nby:¬a.BY=b5:=λe=>aC X5 NL e.symm;have k0m:=Kj;clear Kj;have Kj:KO (λy=>y=b5) wr wr:=KO.refl _ _;change Hid _ at Kq LZ KY Kv XQ My Lq NR N9 XT VX XR XC ht2 OW;clear KI Ys ZB ZW VN Zd hxn N6;have Sf:=Te.r;have Lh:=((am Δ Θ NL x (z:=Kp) ρm).2.trans ρV);have rR:=R0.r;have SU:=ZL.r;have KD:=((aj.c15 Sw).trans σY);have KL:=(aj.fr Sw);go_upto_region 12 with (fail);refine Zw (θ8 Kj Te NL Sw Q0 G0 R0 ZL) ?_;rintro MN ⟨Ls,Xl,SX,TJ,Sp,Tc,OL,Xf⟩;replace Sf:=Xl.r;replace Lh:=((am Δ Θ SX x (z:=Kp) ρm).2.trans ρV);replace rR:=OL.r;replace SU:=Xf.r;replace KD:=((aj.c15 TJ).trans σY);replace KL:=(aj.fr TJ);have Og:=af Xl;have Mq:=λd os=>((am Δ Θ (SX.grow d os) x (z:=Kp) ρm).2.trans ρV);have KS:=λd os=>((aj.c15 (TJ.below (qW _ d os))).trans σY);have Lg:=λd os=>(aj.fr (TJ.below (qW _ d os)));have qR:=af OL;have SR:=af Xf;refine Ws 10 (gH ?_);refine Zq (θ8 Xl SX TJ Sp Tc OL Xf Ls) ?_;rintro OY ⟨S'12,Yn,Xq,Q12,Re,Sq,PB12,Le⟩;replace Sf:=S'12.r;replace Lh:=((am Δ Θ Yn x (z:=Kp) ρm).2.trans ρV);replace rR:=Sq.r;replace SU:=PB12.r;replace KD:=((aj.c15 Xq).trans σY);replace KL:=(aj.fr Xq);clear Og Mq KS Lg qR SR Xl SX TJ Sp Tc OL Xf;have XB:=Xq;have XG:=Re;go_wp2_with fail;refine iq OY (λy=>y=b5) (λv=>aj v b5 qv5 {s5.e x with tot:=t1}) (aj.set15 Xq t1) (λ_ kx=>θ7 (Le.trans kx σg) (S'12.ko kx ρt) (Yn.ko kx ρt) (Q12.ko kx σD) (Re.ko kx σh) (Sq.ko kx ρt) (PB12.ko kx ρt)) ?_;rintro QE X'13 ⟨Ml,S'13,Yo,ZP,ZF,R13,PB13⟩;replace Sf:=S'13.r;replace Lh:=((am Δ Θ Yo x (z:=Kp) ρm).2.trans ρV);replace rR:=R13.r;replace SU:=PB13.r;replace KD:=(aj.c15 X'13);clear XB XG;refine Zw (θ8 Ml S'13 Yo ZP ZF R13 PB13 X'13) ?_;rintro Zt ⟨PQ,Xm,SY,Q14,G14,R14,Xg,Vw⟩;replace Sf:=Xm.r;replace Lh:=((am Δ Θ SY x (z:=Kp) ρm).2.trans ρV);replace rR:=R14.r;replace SU:=Xg.r;replace KD:=(aj.c15 Vw);have Og:=af Xm;have Mq:=λd os=>((am Δ Θ (SY.grow d os) x (z:=Kp) ρm).2.trans ρV);have qR:=af R14;have SR:=af Xg;have KS:=λd os=>(aj.c15 (Vw.below (qW _ d os)));refine Ws 12 (oR ?_)
   repeat (first
    | (refine aj.qsh Vw (.tmp 78) ρs ρs ρs ?_;(try simp only[Act.put,List.setIfInBounds_toArray,List.set_cons_succ,List.set_cons_zero]))
    | (go_big_quiet_step ((first
     | (go_at_call 162;(with_reducible exact cD (xu (s5.e x).sh Vf t1 _ rt2 ocs XR.out)))))))
   refine Zq (θ8 Xm SY Q14 G14 R14 Xg Vw PQ) ?_;rintro v15 ⟨S'15,Yp,Q15,G15,R15,PB15,Xr,SL⟩;replace Sf:=S'15.r;replace Lh:=((am Δ Θ Yp x (z:=Kp) ρm).2.trans ρV);replace rR:=R15.r;replace SU:=PB15.r;replace KD:=(aj.c15 Xr);clear Og Mq qR SR KS Xm SY Q14 G14 R14 Xg Vw;have XB:=Xr;have XG:=G15;refine aj.ssh Xr Vf (.tmp 86) (.tmp 84) ρs ρs ρs ρs ?_;intro v16 X'16 kx zx;have S'16:=S'15.ko kx ρt;have Yq:=Yp.ko kx ρt;have Q16:=Q15.ko kx σD;have G16:=G15.ko kx σh;have R16:=R15.ko kx ρt;have PB16:=PB15.ko kx ρt;have k016:KO (λy=>y=b5) wr v16:=SL.trans kx σg;replace Sf:=S'16.r;replace Lh:=((am Δ Θ Yq x (z:=Kp) ρm).2.trans ρV);replace rR:=R16.r;replace SU:=PB16.r;replace KD:=(aj.c15 X'16);clear kx zx XB XG Xr;simp only[Act.put];go_wp2_with fail;refine Zw (θ8 k016 S'16 Yq Q16 G16 R16 PB16 X'16) ?_;rintro v17 ⟨k017,Xn,S9,Q17,G17,R17,Xh,Vx⟩;replace Sf:=Xn.r;replace Lh:=((am Δ Θ S9 x (z:=Kp) ρm).2.trans ρV);replace rR:=R17.r;replace SU:=Xh.r;replace KD:=(aj.c15 Vx);have Og:=af Xn;have Mq:=λd os=>((am Δ Θ (S9.grow d os) x (z:=Kp) ρm).2.trans ρV);have qR:=af R17;have SR:=af Xh;have KS:=λd os=>(aj.c15 (Vx.below (qW _ d os)));refine Ws 12 (oR ?_)
   repeat (first
    | (refine aj.qcp Vx (.tmp 90) ρs ρs ρs ?_;(try simp only[Act.put,List.setIfInBounds_toArray,List.set_cons_succ,List.set_cons_zero]))
    | (go_big_quiet_step ((first
     | (go_at_call 163;(with_reducible exact cD (kL (s5.e x).cp UK t1 _ rt2 occ XC.out)))))))
   refine Zq (θ8 Xn S9 Q17 G17 R17 Xh Vx k017) ?_;rintro v18 ⟨S'18,Yr,Q18,G18,R18,PB18,ZZ,k018⟩;replace Sf:=S'18.r;replace Lh:=((am Δ Θ Yr x (z:=Kp) ρm).2.trans ρV);replace rR:=R18.r;replace SU:=PB18.r;replace KD:=(aj.c15 ZZ);clear Og Mq qR SR KS Xn S9 Q17 G17 R17 Xh Vx;have XB:=ZZ;have XG:=G18;refine aj.scp ZZ UK (.tmp 98) (.tmp 96) ρs ρs ρs ρs ?_;intro v19 X'19 kx zx;have S'19:=S'18.ko kx ρt;have BY'19:=Yr.ko kx ρt;have Q19:=Q18.ko kx σD;have G19:=G18.ko kx σh;have R19:=R18.ko kx ρt;have ZM:=PB18.ko kx ρt;have k019:KO (λy=>y=b5) wr v19:=k018.trans kx σg;replace Sf:=S'19.r;replace Lh:=((am Δ Θ BY'19 x (z:=Kp) ρm).2.trans ρV);replace rR:=R19.r;replace SU:=ZM.r;replace KD:=(aj.c15 X'19);have H19:=H0.entTo (i:=x) (x:={s5.e x with tot:=t1,sh:=Vf,cp:=UK}) NR.out Lq.out N9.out k019 (λk e=>.inl (by rw[e];exact Sd)) ⟨X'19,Sd,Q19,⟨OW.out.1,OW.out.2.1,OW.out.2.2.1,Uw.1,Uw.2,Uu.1,Uu.2,rt1⟩⟩;have k0e:=k0m.trans k019 (by intro z hz e;show TG.mine _;(try dsimp only at e);rw[<- Ou z hz,e,Sd];simp[TG.mine]);clear kx zx XB XG;go_wp2;go_roundw;case rel=>exact⟨a1++[x],r2,by rw[qL,LZ.out];go_num,by rw[Kq.out];simp,by rw[My.out,ht2.out];exact H19.below ρE,ae.below G19 ρE,R19.below ρE R19.size,ZM.below ρE ZM.size,k0e.step0 ρE⟩
   case measure=>exact ξb
theorem bm.none {J:Int->Prop} {o:aU} {w:ϖ} {L:List CD} {e:Int->EN} {LB:List (Int × ϗ)} {i:Int} (h:bm J o w L e LB)(hc:fc L i=none):lk i LB=none:=by obtain⟨P,V,h3⟩:=h;have:=h3 i;rw[hc] at this;exact this
noncomputable def SS.put2 (s:SS) (now i:Int) (p:PK) (up:List Int):Int × SS:=
 match fc s.L i with
 | none=>(23,s)
 | some c=>
  if c.lf=false then (29,s) else
  if p.len<1\/s.Lm<p.len then (26,s) else
  if 1099511627776<s.acc+p.len then (28,s) else
  if c.by_ - aA (s.e i).q<p.len\/(s.e i).q.length=c.pk.toNat then (30,s) else
  if (s.e i).q=[] then (0,SS.wake {s.setE i {s.e i with q:=(s.e i).q++[p]} with acc:=s.acc+p.len} now i p.len up) else (0,{s.setE i {s.e i with q:=(s.e i).q++[p]} with acc:=s.acc+p.len})
theorem yQ {s:SS} {now i:Int} {p:PK} {up:List Int} (h1:¬now<s.clk)(h2:¬4611686018427387904<now):s.put now i p up=SS.put2 {s with clk:=now} now i p up:=by unfold SS.put SS.put2;rw[qI (by unfold SS.told;simp;omega)];rfl
theorem yP {s:SS} {now i:Int} {p:PK} {up:List Int} (h:fc s.L i=none):SS.put2 s now i p up=(23,s):=by unfold SS.put2;rw[h]
theorem yO {s:SS} {now i:Int} {p:PK} {up:List Int} {c:CD} (h:fc s.L i=some c)(hl:c.lf=false):SS.put2 s now i p up=(29,s):=by unfold SS.put2;rw[h];exact qP hl
theorem vA {s:SS} {now i:Int} {p:PK} {up:List Int} {c:CD} (h:fc s.L i=some c)(hl:c.lf=true)(h1:p.len<1\/s.Lm<p.len):SS.put2 s now i p up=(26,s):=by unfold SS.put2;rw[h];simp only[hl,Bool.true_eq_false,if_false,qP h1]
theorem wV {s:SS} {now i:Int} {p:PK} {up:List Int} {c:CD} (h:fc s.L i=some c)(hl:c.lf=true)(h0:¬p.len<1)(h1:¬s.Lm<p.len)(h2:1099511627776<s.acc+p.len):SS.put2 s now i p up=(28,s):=by unfold SS.put2;rw[h];simp only[hl,Bool.true_eq_false,if_false,qI (not_or.2 ⟨h0,h1⟩),qP h2]
theorem rL {s:SS} {now i:Int} {p:PK} {up:List Int} {c:CD} (h:fc s.L i=some c)(hl:c.lf=true)(h0:¬p.len<1)(h1:¬s.Lm<p.len)(h2:¬1099511627776<s.acc+p.len)(h3:c.by_ - aA (s.e i).q<p.len\/(s.e i).q.length=c.pk.toNat):SS.put2 s now i p up=(30,s):=by unfold SS.put2;rw[h];simp only[hl,Bool.true_eq_false,if_false,qI (not_or.2 ⟨h0,h1⟩),qI h2,qP h3]
theorem EM {s:SS} {now i:Int} {p:PK} {up:List Int} {c:CD} (h:fc s.L i=some c)(hl:c.lf=true)(h0:¬p.len<1)(h1:¬s.Lm<p.len)(h2:¬1099511627776<s.acc+p.len)(h3:¬c.by_ - aA (s.e i).q<p.len)(h4:¬(s.e i).q.length=c.pk.toNat):SS.put2 s now i p up=if (s.e i).q=[] then (0,SS.wake {s.setE i {s.e i with q:=(s.e i).q++[p]} with acc:=s.acc+p.len} now i p.len up) else (0,{s.setE i {s.e i with q:=(s.e i).q++[p]} with acc:=s.acc+p.len}):=by unfold SS.put2;rw[h];simp only[hl,Bool.true_eq_false,if_false,qI (not_or.2 ⟨h0,h1⟩),qI h2,qI (not_or.2 ⟨h3,h4⟩)]
theorem aW.len {w:ϖ} {B:Nat} {KG:Int} {c:Nat} {l:List PK} {fp:Nat->Prop} (H:aW w B KG c l fp):l.length<=c:=by obtain⟨R,S,f,ps,k0,k1,k2,k3,k4,k5,B',G,_⟩:=H;exact G.2.2.2.2.1
theorem F0 (o:aU)(a:Ad)(s:SS)(now i:Int)(p:PK)(xs:List Int)(w:ϖ)(H:ar o w a s)(W:s.Wf)(No:¬now<s.clk/\¬4611686018427387904<now)(hnow:0<=now/\now<=4611686018427387904)(RP:s.Lm<=16384)(hacc:0<=s.acc/\s.acc<=1099511627776)(VY:∀p j q,s.kd p j=some q->0<=q.1/\q.1<=Mc)
  (hs:∀c,fc s.L i=some c->c.lf=true->(s.e i).q=[]->eZ c=true->cj s.L i xs/\xs≠[]/\xs.length<=1000/\s.A.is i=false):Calls Ψ 86 #[a.S,now,ι ε i,φ (gT p.id p.len p.h0 p.h1 p.h2 p.h3)] w λe w'=>∃n s',e=ϰ (ι ε n)/\s.put now i p xs=(n,s')/\∃o',ar o' w' a s'/\(∀y,y<w.heap.size->o' y=o y)/\KO (λx=>(o x).mine) w w':=by
 refine δU ?_;intro H0 S' Ou Zo s0 MK W0;have e0:s0.L=s.L/\s0.e=s.e/\s0.A=s.A/\s0.acc=s.acc/\s0.Lm=s.Lm/\s0.kd=s.kd:=by rw[<- MK];exact⟨rfl,rfl,rfl,rfl,rfl,rfl⟩
 have Tx:=yQ (s:=s) (i:=i) (p:=p) (up:=xs) No.1 No.2;rw[MK] at Tx;have Rr:=S'.r;go_in;go_upto_region 1 with (fail);refine jW (θ2 (Ks (λ_=>False) w) S') (λv=>ah v w (gT p.id p.len p.h0 p.h1 p.h2 p.h3) 50) ρB ?_;clear Rr;rintro v1 PB1 ⟨I',Lp⟩ Rr;have Ss:=PB1.r;have H1:=H0.below I'.toBelow;have z1:=PB1.size;go_wp2_with fail;refine(yd (o.more w .no) a s now v1 H1 (by have:=No;omega) (by have:=No;omega)).mono ?_;rintro e v2 ⟨rfl,H2,kx⟩;rw[MK] at H2;have TC:¬w=a.S:=λe=>by have:=S'.size;omega
 have PB2:=PB1.ko kx TC;have z2:=kx.size;have J':KO (λx=>(o x).mine) w v2:=((I'.mono (λ_ _ f=>f.elim):KO (λx=>x=a.S) w v1).trans kx σg).mono τ1;replace MK:=ag MK;clear Lp H1 kx I' S' H0 PB1;obtain⟨MT,Ng,Qh,ZC,-,-,-,-,oS,-⟩:=id H2;replace Ss:=θ2 MT.r PB2.r;cases hc:fc s0.L i with
 | none=>have hlk0:=ZC.none hc;have lB:=((am Δ Θ Qh i (z:=Kp) ρm).1.trans (by rw[hlk0];try rfl));have PO:=yP (now:=now) (p:=p) (up:=xs) hc;change Hid _ at PO Tx;clear ZC Ng;go_wp2;go_ret;exact⟨23,s0,rfl,by rw[Tx.out];exact PO.out,(o.more w .no),H2.below ρE,Ou,J'.step0 ρE⟩
 | some c=>
  obtain⟨b,qv,hb,KU,E0,-⟩:=ZC.out hc;obtain⟨X0,ob,Q0,ok⟩:=E0;have LU:aj v2 b qv (s0.e i):=X0;obtain⟨lf,LY⟩:=Nq c.lf;have lB:=((am Δ Θ Qh i (z:=Kp) ρm).1.trans (by rw[hb];try rfl));have lX3:=(aj.c3 LU).trans (by rw[KU,LY]);have lX0:=aj.c0 LU;have Ua:=ag hb;clear hb;replace KU:=ag KU;have hc0:=ag hc;replace LY:=ag LY;clear ZC Ng;rcases lf with _|_
  ·have PO:=yO (now:=now) (p:=p) (up:=xs) hc LY.out;change Hid _ at PO Tx;go_wp2;go_ret;exact⟨29,s0,rfl,by rw[Tx.out];exact PO.out,(o.more w .no),H2.below ρE,Ou,J'.step0 ρE⟩
  have Qs:(s0.e i).c.lf=true:=by rw[KU.out];exact LY.out
  unfold ed at Q0;rw[qP Qs] at Q0;obtain⟨Q,Qo,rfl,Q2,Pg⟩:=Q0;change Hid _ at Qs Pg;clear lX3 lX0 X0;have KD:=(aj.c0 LU);have KL:=((aj.c3 LU).trans σu);by_cases UQ:p.len<1
  ·have d1:=qT UQ;have PO:=vA (now:=now) (up:=xs) hc LY.out (p:=p) (.inl UQ);exact ξs
  have d1:=qF UQ;by_cases Py:s0.Lm<p.len
  ·have d2:=qT Py;have PO:=vA (now:=now) (up:=xs) hc LY.out (p:=p) (.inr Py);exact ξs
  have d2:=qF Py;have Mk:1<=p.len/\p.len<=16384:=by rw[e0.2.2.2.2.1] at Py;omega
  have ha0:0<=s0.acc/\s0.acc<=1099511627776:=by rw[e0.2.2.2.1];exact hacc
  obtain⟨t1,VX⟩:=Nq (s0.acc+p.len);have Uj:IntKind.u64.wrap p.len=p.len:=qZ _ ⟨by omega,by omega⟩;have XV:IntKind.u64.wrap (s0.acc+p.len)=t1:=by rw[VX];exact qZ _ ⟨by omega,by omega⟩
  change Hid _ at VX e0;go_wp2_with fail;refine bR (θ6 J' H2 MT PB2 LU Q2) ?_;clear Rr Ss;rintro v3 ⟨Kk,H3,MU,ZN,LW,Q3⟩ Rr;replace KD:=(aj.c0 LW);replace KL:=((aj.c3 LW).trans σu);have Og:=af MU;have SR:=af ZN;have KS:=λd os=>(aj.c0 (LW.below (qW _ d os)));have Lg:=λd os=>((aj.c3 (LW.below (qW _ d os))).trans σu);refine Wq ?_;refine tf ?_;refine bE (θ6 H3 MU ZN LW Q3 Kk) ?_;clear Rr;rintro v4 ⟨H4,OM,PB4,LX,Q4,Km⟩ Rr;replace KD:=(aj.c0 LX);replace KL:=((aj.c3 LX).trans σu);clear Og SR KS Lg H3 MU ZN LW Q3;by_cases hl3:1099511627776<t1
  ·have d3:=qT hl3;have PO:=wV (now:=now) (up:=xs) hc LY.out (p:=p) ρa ρa (by rw[VX.out];omega);change Hid _ at PO Tx;go_wp2_with fail;refine δz ?_;clear Rr KD KL;intro v5 Kw v6 H6 Pa Vr MP Q6 KH Rr KD KL;go_wp2;go_ret;exact⟨28,s0,rfl,by rw[Tx.out];exact PO.out,(o.more w .no),H6.below ρE,Ou,KH.step0 ρE⟩
  have d3:=qF hl3;go_wp2_with fail;refine δz ?_;clear Rr KD KL;intro v5 Kw v6 H6 Pa Vr MP Q6 KH Rr KD KL;go_wp2_with fail;refine bR (θ6 KH H6 Pa Vr MP Q6) ?_;clear Rr;rintro v7 ⟨KV,H7,Tf,PB7,Pd,Q7⟩ Rr;replace KD:=(aj.c0 Pd);replace KL:=((aj.c3 Pd).trans σu);have Og:=af Tf;have SR:=af PB7;have KS:=λd os=>(aj.c0 (Pd.below (qW _ d os)));have Lg:=λd os=>((aj.c3 (Pd.below (qW _ d os))).trans σu);refine Ws 5 (gH ?_);refine bE (θ6 H7 Tf PB7 Pd Q7 KV) ?_;clear Rr;rintro v8 ⟨H8,RM,PB8,Pe,Q8,KZ⟩ Rr;replace KD:=(aj.c0 Pe);replace KL:=((aj.c3 Pe).trans σu);clear Og SR KS Lg H7 Tf PB7 Pd Q7;have LX:=Pe;have H4:=H8;have Q4:=Q8;have PB4:=PB8;have OM:=RM;have Km:=KZ;have v4h:True:=trivial;have lX0:=aj.c0 LX;have ok0:=ok;replace ok:=ag ok;by_cases hl4:(s0.e i).c.by_ - aA (s0.e i).q<p.len
  ·have PO:=rL (now:=now) (up:=xs) hc LY.out (p:=p) ρa ρa (by rw[VX.out];omega) (.inl (by rw[<- KU.out];omega));go_wp2_with fail;refine(rM Q _ _ _ p Qo v8 Q4 Mk.1 Mk.2 hl4).mono ?_;exact ξu
  have hql:(s0.e i).q.length<=(s0.e i).c.pk.toNat:=aW.len Q4;by_cases hl5:(s0.e i).q.length=(s0.e i).c.pk.toNat
  ·have PO:=rL (now:=now) (up:=xs) hc LY.out (p:=p) ρa ρa (by rw[VX.out];omega) (.inr (by rw[<- KU.out];omega));go_wp2_with fail;refine(uh Q _ _ _ p Qo v8 Q4 Mk.1 Mk.2 ρa hl5).mono ?_;exact ξu
  have PO:=EM (now:=now) (up:=xs) hc LY.out (p:=p) ρa ρa (by rw[VX.out];omega) (by rw[<- KU.out];omega) (by rw[<- KU.out];omega);rw[VX.out] at PO;go_wp2_with fail;refine(yT Q _ _ _ p Qo v8 Q4 Mk.1 Mk.2 ρa ρa).mono ?_;rintro e v5 ⟨rfl,QA5,kx⟩;have nRq:¬Qo w:=λf=>by have:=Pg.out _ f;rw[Zo _ (qR _)] at this;cases this
  have LA:=LX.ko kx σ9;have Vq:=PB4.ko kx nRq;have NE:=OM.ko kx (λf=>by have:=Pg.out _ f;rw[oS] at this;cases this);have H5:=H4.entTo (x:={s0.e i with q:=(s0.e i).q++[p]}) hc Ua.out KU.out kx (λy f=>.inr (Pg.out y f)) ⟨aj.popq LA,ob,by unfold ed;rw[qP Qs.out];exact⟨Q,Qo,rfl,QA5,Pg.out⟩,ok.out⟩;have Kw:=Km.trans kx σF;have z5:=kx.size;obtain⟨s1,Lv⟩:=Nq (s0.setE i {s0.e i with q:=(s0.e i).q++[p]});rw[Lv] at H5;have e1:s1.T=s0.T/\s1.Lm=s0.Lm/\s1.clk=s0.clk/\s1.acc=s0.acc:=by rw[<- Lv];exact⟨rfl,rfl,rfl,rfl⟩
  clear kx H4 LX PB4 OM Q4 Km;change Hid _ at Lv PO Tx e1;have Q5:=QA5;clear QA5;have Ss:=θ2 NE.r Vq.r;go_upto_region 17 with (fail);refine bR (θ6 Kw H5 NE Vq LA Q5) ?_;clear Rr Ss;rintro v6 ⟨KH,H6,Pa,Vr,MP,Q6⟩ Rr;have Og:=af Pa;have SR:=af Vr;refine Ws 10 (gH ?_);refine bE (θ6 H6 Pa Vr MP Q6 KH) ?_;clear Rr;rintro v7 ⟨H7,Tf,PB7,Pd,Q7,KV⟩ Rr;clear Og SR H6 Pa Vr MP Q6;have lX0:=aj.c0 Pd;go_upto_region 18 with (fail);refine iq v7 (λy=>y=a.S) (λv=>ah v a.S #[ι ε s0.T,ι ε s0.Lm,a.T,.map (some a.BY),a.ON,a.LV,.map (some a.KM),s0.clk,t1] 155) ρB (λ_ kx=>kx) ?_;rintro v8 RM kx;have H8:=H7.numTo (clk:=s1.clk) (acc:=t1) kx (by rw[e1.out.1,e1.out.2.1,e1.out.2.2.1];exact RM);have KZ:=KV.trans kx (by intro x hx f;show TG.mine _;rw[<- Ou x hx,f,oS];simp[TG.mine]);have PB8:=PB7.ko kx TC;have Pe:=Pd.ko kx (λf=>by rw[f,oS] at ob;cases ob);have Q8:=Q7.ko kx (λy hy f=>by have:=Pg.out y hy;rw[f,oS] at this;cases this);have z8:=kx.size;clear kx H7 PB7 Pd Q7 Tf KV lX0;have Ss:=θ2 RM.r PB8.r;have lX0:=aj.c0 Pe;obtain⟨n,hn⟩:=Nq (((s0.e i).q++[p]).length);go_wp2_with fail;refine(ug Q _ _ _ Qo _ Q8).mono ?_;rintro e u ⟨rfl,rfl⟩;rw[hn];by_cases h1:n=1
  rotate_left
  ·have Kr:((n:Int)==1)=false:=by rw[qN];omega
   have KI:(s0.e i).q≠[]:=λe=>h1 (by rw[<- hn,e];rfl);change Hid _ at KI hn;go_wp2;go_ret;exact⟨0,{s1 with acc:=t1},rfl,by rw[Tx.out];exact(by rw[PO.out,qI KI.out,Lv.out]),(o.more w .no),H8.below ρE,Ou,KZ.step0 ρE⟩
  subst h1;have SF:(s0.e i).q=[]:=by cases hq:(s0.e i).q with|nil=>rfl|cons x r=>rw[hq] at hn;simp at hn
  have hsi:(s1.e i).q≠[]:=by rw[<- Lv.out];unfold SS.setE ay;simp
  have RX:∀j,(s1.e j).c=(s0.e j).c:=by rw[<- Lv.out];intro j;unfold SS.setE ay;simp only[];split<;>rename_i e<;>first|(rw[e])|rfl
  have W8:({s1 with acc:=t1}:SS).Wf:=Wf.of_same W0 (by rw[<- Lv.out];rfl) (λj d h=>by show (s1.e j).c=d;rw[RX j];exact W0.ec j d h) (λp j h=>by rw[<- Lv.out] at h;exact h) (λj h=>by rw[<- Lv.out] at h;exact h);have TV:s1.L=s0.L/\s1.kd=s0.kd/\s1.A=s0.A:=by rw[<- Lv.out];exact⟨rfl,rfl,rfl⟩
  change Hid _ at hn SF hsi RX TV;go_wp2_with fail;refine(DZ (o.more w .no) a {s1 with acc:=t1} now i p.len xs c b _ H8 W8 (λp j q h=>VY p j q (by have h2:s1.kd p j=some q:=h;rw[TV.out.2.1,e0.out.2.2.2.2.2] at h2;exact h2)) (by show fc s1.L i=some c;rw[TV.out.1];exact hc) LY.out hsi.out Ua.out hnow ⟨by omega,by omega⟩ (λh=>by show cj s1.L i xs/\_/\_/\s1.A.is i=false;rw[TV.out.1,TV.out.2.2,e0.out.1,e0.out.2.2.1];exact hs c (by rw[<- e0.out.1];exact hc) LY.out (by rw[<- e0.out.2.1];exact SF.out) h)).mono ?_;rintro e v9 ⟨rfl,o9,H9,oe9,kx⟩;have Ll:=KZ.trans kx (by intro x hx f;(try dsimp only at f);rw[Ou x hx] at f;exact f);have z9:=kx.size;have ow9:∀x,x<w.heap.size->o9 x=o x:=λx hx=>(oe9 x ρa).trans (Ou x hx);clear kx;go_wp2;go_ret;exact⟨0,({s1 with acc:=t1}:SS).wake now i p.len xs,rfl,by rw[Tx.out];exact(by rw[PO.out,qP SF.out,Lv.out]),o9,H9.below ρE,ow9,Ll.step0 ρE⟩
end Go.Proofs.YtfdlemkplejdnaaGreat
