/- WholeBehind, part 26. Conditions: none. -/
import Derived.Test.YtfdlemkplejdnaaGreatA18
import Derived.Test.YtfdlemkplejdnaaGreatA23
namespace Go.Proofs.YtfdlemkplejdnaaGreat
open Go.RowKit Go.Sort
open Value renaming int->ι,pointer->ψ,slice->ζ,tuple->χ,agg->φ,map->μ,bool->β
open IntKind renaming u64->υ,i64->ε,u16->ω
open Ending renaming returned->ϰ
open Go.Proofs.Tryz renaming prog->Ψ,underlying3->Θ,underlying147->Δ,underlying152->Γ,underlying202->Φ,underlying39->Ξ,underlying207->Ω
open Go renaming World->ϖ,Value->ϗ
set_option linter.unusedVariables false
set_option linter.unusedSimpArgs false
set_option maxHeartbeats 8000000
set_option maxRecDepth 100000
abbrev BL (x:Int):List ϗ:=[ι υ x]
theorem ae.us {w:ϖ} {base:Nat} {v:ϗ} {l:List Int} (h:ae 39 1 BL w base v l)(hb:∀x ∈ l,0<=x/\x<=1048576):(v=Kn/\l=[])\/∃g IM,v=tu g l.length IM/\base<=g/\US w g l.length:=by
 obtain⟨h1,⟨rfl,h2⟩|⟨g,IM,Lp,rfl,h2,h3,h4,h5,h6,h7⟩⟩:=h
 ·exact .inl ⟨rfl,List.length_eq_zero_iff.1 h2⟩
 ·refine .inr ⟨g,IM,rfl,h2,λi=>(l[i]?).getD 0,λi=>?_,Lp,h3,by omega,λi hi=>?_⟩
  ·show 0<=(l[i]?).getD 0/\(l[i]?).getD 0<=1048576;cases e:l[i]? with
   | none=>simp
   | some x=>exact hb x (List.mem_of_getElem? e)
  ·have e:Lp[i]?=(Lp.toList.take (l.length*1))[i]?:=by rw[List.getElem?_take,ZP ρa,Array.getElem?_toList]
   rw[e,h7];have e2:∀(l:List Int) (i:Nat),(l.flatMap BL)[i]?=(l[i]?).map (Value.int .u64):=by
    intro l
    induction l with
    | nil=>intro i;rfl
    | cons a r ih=>intro i;cases i with
     | zero=>rfl
     | succ i=>exact ih i
   rw[e2,List.getElem?_eq_getElem hi];simp[hi]
theorem Bd (w:ϖ):CB 278 #[Kn,Kz,Kz] w (χ #[]):=by
 unfold CB;go_in;go_wp2_with fail;go_loopw [6] (λt wr=>t=Ko/\Below w w wr) (λ_ _=>0);case atStart=>exact⟨rfl,ρE⟩
 case round=>
  obtain⟨rfl,k⟩:=hrel;go_wp2_with fail;(first|go_end0|((try simp only[Exit.inBlock,Exit.then]);refine ZO (results_none rfl _ _ _) rfl ?_));exact⟨rfl,k.trans ρE⟩
theorem Be (k:Nat)(w:ϖ):CB 265 #[Kn,Kz,Kz,ι ε k] w (χ #[]):=by
 unfold CB;go_in;go_wp2_with fail;go_loopw [1,2] (λt u wr=>t=Kz/\u=Kz/\Below w w wr) (λ_ _ _=>0);case atStart=>exact⟨rfl,rfl,ρE⟩
 case round=>
  obtain⟨rfl,rfl,k⟩:=hrel;go_wp2_with fail;refine(Bd wr).mono ?_;rintro e v ⟨rfl,k2⟩;go_wp2_with fail;(first|go_end0|((try simp only[Exit.inBlock,Exit.then]);refine ZO (results_none rfl _ _ _) rfl ?_));exact⟨rfl,(k.trans (k2.mono k.size)).trans ρE⟩
theorem yt (w:ϖ):CB 233 #[Kn] w (χ #[]):=by have h0:IntKind.u64.wrap 0=0:=ZZ _ ⟨by omega,by omega⟩;unfold CB;go_in;go_wp2_with (first|(go_at_call 148;refine(Ft 0 _ ρa).mono ?_;rintro e u ⟨k,rfl,hk,rfl⟩)|(go_at_call 265;refine(Be k _).mono ?_;rintro e v ⟨rfl,kx⟩));(first|go_end0|((try simp only[Exit.inBlock,Exit.then]);refine ZO (results_none rfl _ _ _) rfl ?_));exact⟨rfl,Below.trans ρE (kx.mono ρp)⟩
theorem Fz (g N n IM:Nat)  (w:ϖ)(U:US w g N)(hn:n<=N/\n<=49):Calls Ψ 233 #[tu g n IM] w λe w'=>e=ϰ (χ #[])/\US w' g N/\KO (λx=>x=g) w w':=by
 have h0:IntKind.u64.wrap (n:Int)=n:=ZZ _ ⟨by omega,by omega⟩;go_in;go_wp2_with (first|(go_at_call 148;refine(Ft n _ ρa).mono ?_;rintro e u ⟨k,rfl,hk,rfl⟩)|(go_at_call 265;refine(GK g N n IM hn (n+1) 0 n k _ (US.below U ρE) ρa ρa ρa ρa).mono ?_;rintro e v ⟨rfl,U2,kx⟩));(first|go_end0|((try simp only[Exit.inBlock,Exit.then]);refine ZO (results_none rfl _ _ _) rfl ?_));exact⟨rfl,U2.below ρE,(KO.of_below ρE).trans kx (λ_ _ e=>e) |>.step0 ρE⟩
theorem jZ {w:ϖ} (g:Nat):∀(vs:List ϗ)(o:Nat)(v:ϖ),KO (λx=>x=g) w v->KO (λx=>x=g) w (v.setCells g o vs)
 | [],_,_,h=>h
 | u::r,o,v,h=>jZ g r (o+1) _ (KO.setCell h (λ_=>rfl) _)
theorem yp (g N n IM:Nat)  (w:ϖ)(U:US w g N)(hn:n<=N/\n<=49)(JA:n<=IM/\IM<=maxLen):Calls Ψ 234 #[tu g n IM] w λe w'=>∃m:Nat,e=ϰ (ζ g m IM)/\m<=n/\US w' g N/\KO (λx=>x=g) w w':=by
 by_cases c0:n<2
 ·have d0:=dt ((n:Int)<2);have d0':=ZT c0;go_in;go_wp2;go_ret;exact⟨n,rfl,ZR _,U.below ρE,KO.of_below ρE⟩
 have d0:=df ((n:Int)<2);have d0':=ZF c0;go_in;go_wp2_with fail;go_loopw [3] (λt wr=>∃k:Nat,t=ι ε k/\(1<=k/\k<=n)/\US wr g N/\KO (λx=>x=g) w wr) (λt _=>n - (intOf t).toNat);case atStart=>exact⟨1,rfl,by omega,U,KO.refl _ _⟩
 case round=>
  obtain⟨k,rfl,hk,⟨f,U0⟩,IB⟩:=hrel;by_cases c1:k<n
  rotate_left
  ·have d1:=ZF c1;go_wp2;go_ret;exact⟨n,rfl,ZR _,U0.us.below ρE,IB.step0 ρE⟩
  have d1:=ZT c1;obtain⟨q,hq⟩:∃q:Nat,(k:Int) - 1=q:=⟨k - 1,by omega⟩;have I':=(U0.cell (i:=k) ρa);have Jz:=(U0.cell (i:=q) ρa);have JD:=U0.size;go_wp2_with fail;refine Zw (θ2 IB U0) ?_;rintro v1 ⟨F',U1⟩;replace I':=(U1.cell (i:=k) ρa);replace Jz:=(U1.cell (i:=q) ρa);replace JD:=U1.size;have JN:=λd os=>((U1.below (ZW _ d os)).cell (i:=k) ρa);have Lg:=λd os=>((U1.below (ZW _ d os)).cell (i:=q) ρa);refine δm ?_;intro KT
  repeat (go_big_quiet_step ((first
    | (go_at_call 226;(with_reducible exact an (bY _ _ _))))))
  refine Zq (θ2 U1 F') ?_;rintro v2 ⟨U2,Iz⟩;replace I':=(U2.cell (i:=k) ρa);replace Jz:=(U2.cell (i:=q) ρa);replace JD:=U2.size;clear JN Lg KT U1;by_cases c2:f k=f q
  rotate_left
  ·have d2:=ZF c2;have Vc:(f k==f q)=false:=ZN.2 c2;go_wp2;go_roundw;case rel=>exact⟨k+1,by first|rfl|(congr 1;omega)|go_num,by omega,U2.us.below ρE,Iz.step0 ρE⟩
   case measure=>exact ξe
  have d2:=ZT c2;have Vc:(f k==f q)=true:=by rw[c2];exact beq_self_eq_true _
  obtain⟨r,hr⟩:∃r:Nat,n - k=r:=⟨_,rfl⟩;go_wp2_with fail;have US2:=U2.us;clear U2 I' Jz JD c2 d2 Vc;go_loopw [3,5] (λt u wr=>∃(i j:Nat),t=ι ε i/\u=ι ε j/\(k<=i/\i+1<=k+j)/\(1<=j/\j<=r)/\US wr g N/\KO (λx=>x=g) w wr) (λt u _=>r - (intOf u).toNat);case atStart=>exact⟨k,1,rfl,rfl,by omega,by omega,US2,Iz⟩
  case round=>
   clear US2 Iz IB;obtain⟨i,j,rfl,rfl,hi,hj,⟨f3,U0⟩,IB⟩:=hrel;by_cases c3:j<r
   rotate_left
   ·have d3:=ZF c3;obtain⟨m,hm⟩:∃m:Nat,n - i=m:=⟨_,rfl⟩;obtain⟨c,hc⟩:∃c:Nat,IM - i=c:=⟨_,rfl⟩;go_upto_region 14 with fail;refine Zw (θ2 IB U0) ?_;rintro v5 ⟨IN,U5⟩;have Uk:=Go.Lib.run_clear_slice (P:=Ψ) v5 197 39 0 Ky Tryz.underlying197 (λw=>Tryz.zeroValue39 w) rfl rfl g i m c ρa (λj hj=>by rw[U5.cell ρa];rfl) (λj hj=>U5.frozen _);go_wp2;go_ret;exact⟨i,rfl,by omega,U5.us.setCells ρa m i,jZ g _ _ _ IN⟩
   have d3:=ZT c3;obtain⟨p,hp⟩:∃p:Nat,(j:Int) - 1=p:=⟨j - 1,by omega⟩;have I':=(U0.cell (i:=k+j) ρa);have Jz:=(U0.cell (i:=k+p) ρa);have JD:=U0.size;go_wp2_with fail;refine Zw (θ2 IB U0) ?_;rintro v1 ⟨F',U1⟩;replace I':=(U1.cell (i:=k+j) ρa);replace Jz:=(U1.cell (i:=k+p) ρa);replace JD:=U1.size;have JN:=λd os=>((U1.below (ZW _ d os)).cell (i:=k+j) ρa);have Lg:=λd os=>((U1.below (ZW _ d os)).cell (i:=k+p) ρa);refine δm ?_;intro KT
   repeat (go_big_quiet_step ((first
     | (go_at_call 226;(with_reducible exact an (bY _ _ _))))))
   refine Zq (θ2 U1 F') ?_;rintro v2 ⟨U2,Iz⟩;replace I':=(U2.cell (i:=k+j) ρa);replace Jz:=(U2.cell (i:=k+p) ρa);replace JD:=U2.size;clear JN Lg KT U1;by_cases c4:f3 (k+j)=f3 (k+p)
   ·have d4:(f3 (k+j)==f3 (k+p))=true:=by rw[c4];exact beq_self_eq_true _
    have d4':(f3 (k+j) !=f3 (k+p))=false:=by unfold bne;rw[d4];rfl
    go_wp2;go_roundw;case rel=>exact⟨i,j+1,rfl,by first|rfl|(congr 1;omega)|go_num,by omega,by omega,U2.us.below ρE,Iz.step0 ρE⟩
    case measure=>exact ξe
   have d4:(f3 (k+j)==f3 (k+p))=false:=ZN.2 c4;have d4':(f3 (k+j) !=f3 (k+p))=true:=by unfold bne;rw[d4];rfl
   have lU3:=U2.cell (i:=i) ρa;have fU3:=U2.frozen i;go_wp2;go_roundw;case rel=>exact⟨i+1,j+1,by first|rfl|(congr 1;omega)|go_num,by first|rfl|(congr 1;omega)|go_num,by omega,by omega,τE,Iz.trans (G:=λx=>x=g) ρK (λ_ _ e=>e)⟩
   case measure=>exact ξe
theorem qU (w:ϖ):CB 234 #[Kn] w Kn:=by unfold CB;go_in;exact ηR
theorem ep:(Ψ.info? 39).map (λi=>(i.zero,i.size,i.bytes))=some (some (ι υ 0),1,8):=by kernel_rfl
theorem DA (v:ϗ)(l:List CD)(w:ϖ)(B:Nat)(G:az 3 fo w B v l)(hl:l.length<=49)(hc:∀c ∈ l,iO c.r0 c.r1 c.r2):Calls Ψ 183 #[v] w λe w'=>∃u,e=ϰ u/\Below w w w'/\(u=Kn\/∃g m IM,u=ζ (some ⟨g,0,none⟩) m IM/\m<=49/\m<=IM/\US w' g m/\l≠[]):=by
 obtain⟨oa,oc,rfl,-⟩:=G.slice;obtain⟨n,hn⟩:=Nq l.length;rw[hn] at G hl ⊢;have zB:B<=w:=ρu;go_in;go_wp2_with fail;go_loopw [3,9] (λo k wr=>∃(a b:List CD) (os:List Int),k=ι ε (a.length:Nat)/\l=a++b/\os.length<=a.length/\(a=[]->o=Kn)/\(∀x ∈ os,0<=x/\x<=1048576)/\ae 39 1 BL wr w o os/\az 3 fo wr B (ζ oa n oc) l/\Below w w wr) (λ_ k _=>n - (intOf k).toNat);case atStart=>exact⟨[],l,[],rfl,rfl,ZR _,λ_=>rfl,λx hx=>by simp at hx,ae.nil _ _,G.below ρE,ρE⟩
 case round=>
  obtain⟨a,b,os,rfl,IF,Wu,Le,Su,H0,G0,IB⟩:=hrel;refine δe ?_;intro zw IK q hq;rw[hq] at IK Wu ⊢;have Kk:q<=n:=ρa;have Vi:∀c ∈ b,iO c.r0 c.r1 c.r2:=λc Ku=>hc c (by rw[IF];simp[Ku]);obtain⟨ob,oe,rfl⟩:=ae.slice H0;cases b with
  | nil=>
   refine η8 ?_;intro IJ hd;rcases H0.us Su with ⟨e1,e2⟩|⟨g,IM,e1,hg,U0⟩
   ·obtain⟨rfl,h0,rfl⟩:=ZV e1;rw[e2];change Hid _ at IK IF;clear e1 h0 Le Vi;go_wp2_with fail;refine(yt wr).mono ?_;rintro e v1 ⟨rfl,k1⟩;go_wp2_with fail;refine(qU v1).mono ?_;rintro e v2 ⟨rfl,k2⟩;go_wp2;go_ret;exact⟨_,rfl,((IB.trans (k1.mono zw)).trans (k2.mono (ZK zw k1.size))).trans ρE,.inl rfl⟩
   ·obtain⟨rfl,h0,rfl⟩:=ZV e1;obtain⟨m,hm⟩:=Nq os.length;rw[hm] at Wu U0 H0 ⊢;have J7:m<=oe/\oe<=maxLen:=by obtain⟨_,hh⟩:=H0;rcases hh with ⟨h,_⟩|⟨g',QJ,Lp,hv,_,_,hc,Yc,_⟩;exact ax (ZV h).1 ρp;obtain⟨_,_,rfl⟩:=ZV hv;rw[<- hm];exact⟨hc,Yc⟩
    have Lw:l≠[]:=λe=>by rw[ZA] at IF;have h9:=Le (IF.symm.trans e);exact ax (ZV h9).1 ρp
    clear e1 h0 Le Vi;change Hid _ at IK IF hq hm hn;go_wp2_with fail;refine(Fz g m m oe wr U0 ⟨ZR _,by omega⟩).mono ?_;rintro e v1 ⟨rfl,U1,k1⟩;go_wp2_with fail;refine(yp g m m oe v1 U1 ⟨ZR _,by omega⟩ J7).mono ?_;rintro e v2 ⟨m2,rfl,Wm,U2,k2⟩;go_wp2;go_ret;refine⟨_,rfl,(IB.trans ((k1.trans k2 (λ_ _ e=>e)).below ρa ρC)).trans ρE,.inr ⟨g,m2,oe,rfl,by omega,by omega,?_,Lw⟩⟩
    ·obtain⟨f,h1,cs,h2,h3,h4⟩:=U2;exact US.below ⟨f,h1,cs,h2,by omega,λi hi=>h4 i ρa⟩ ρE
  | cons c r=>
   refine δb ?_;intro IJ hd;have Jm:l[q]?=some c:=ρF;have MN:=Vi c ρp;obtain⟨XZ,Mn,Uu,Nd⟩:=MN;obtain⟨g,II,rfl,hg,RA⟩:=G0.at Jm;obtain⟨kv,LW⟩:=Nq (kd c.r0 c.r1 c.r2);clear Le Vi XZ;change Hid _ at IK hq IF Jm hn;replace IB:=KO.of_below (F:=λ_=>False) IB;have Na:g<wr:=ρa;go_upto_region 4 with (fail);go_wp2_with (refine Go.wpList_load_mid rfl 41 _ rfl g (II+q*3) rfl (fo c) _ RA Tryz.underlying41 rfl ρh ?_;try simp only[fo]);refine Jc (θ3 IB H0 G0) (λv=>ah v wr (aP c.r0 c.r1 c.r2) 41) ρB ?_;rintro v1 X1 ⟨F',H1,G1⟩;replace cX:=X1.cell;replace fX:=X1.frozen;replace zX:=X1.size;refine(bU c.r0 c.r1 c.r2 kv v1 Mn.1 Uu.1 Nd.1 LW).mono ?_;rintro e v2 ⟨rfl,kx⟩;obtain⟨H2,G2,X2,Iz⟩:=Mw kx (θ4 H1 G1 X1 F');replace cX:=X2.cell;replace fX:=X2.frozen;replace zX:=X2.size;clear kx;by_cases c3:kv=3
   ·have e3:(kv==3)=true:=by rw[c3];rfl
    exact ξR
   by_cases c4:kv=4
   ·have e3:(kv==3)=false:=by rw[c4];rfl
    have e4:(kv==4)=true:=by rw[c4];rfl
    exact ξR
   have e3:(kv==3)=false:=ZN.2 c3;have e4:(kv==4)=false:=ZN.2 c4;go_wp2;go_roundw;case rel=>exact⟨a++[c],r,os,by rw[ZL,hq.out];go_num,by rw[IF.out];simp,by simp;rw[hq.out];omega,λe=>ax e ρp,Su,H2.below ρE,G2.below ρE,(Iz.step0 ρE).toBelow⟩
   case measure=>exact ξc
theorem BM (v:ϗ)(l:List CD)(S:CD->Int)(g:Nat)(lb:Array ϗ)(w:ϖ)(B:Nat)(G:az 3 fo w B v l)(hl:l.length<=49)(hc:∀c ∈ l,iO c.r0 c.r1 c.r2/\(0<=S c/\S c<=4503599627370496))(eg:∀args w,(callFunc g args).run Ψ w=.ok (.enter g args) w)
  (hp:∀c ∈ l,∀v,Below w w v->Calls Ψ g (#[φ (aP c.r0 c.r1 c.r2)]++lb) v λe v'=>e=ϰ (wv (S c))/\Below v v v'):Calls Ψ 237 #[v,.func (.func g) #[] lb] w λe w'=>∃s:Int,e=ϰ (wv s)/\(0<=s/\s<=l.length*4503599627370496)/\Below w w w':=by
 obtain⟨oa,oc,rfl,-⟩:=G.slice;obtain⟨n,hn⟩:=Nq l.length;rw[hn] at G hl ⊢;have zB:B<=w:=ρu;go_in;go_wp2_with fail;go_loopw [10] (λk wr=>∃(a b:List CD) (s:Int),k=ι ε (a.length:Nat)/\l=a++b/\(0<=s/\s<=a.length*4503599627370496)/\ah wr (w+1) #[(hi (s)),(lo (s))] 232/\ah wr w #[Ky,Ky] 232/\az 3 fo wr B (ζ oa n oc) l/\Below w w wr) (λk _=>n - (intOf k).toNat);case atStart=>exact⟨[],l,0,rfl,rfl,by simp,(by have h0:hi 0=0:=rfl;have l0:lo 0=0:=rfl;rw[h0,l0];(repeat' (first|(with_reducible (first|assumption|exact ah.alloc_new _ _ _ ρ4|apply ah.drewN|apply ah.drew|apply ah.alloc_old|apply ah.set_same|apply ah.set_other))|(show (_:Nat)≠_;first|omega|(simp;done)|(simp;omega))|((simp only[List.setIfInBounds_toArray,List.set_cons_succ,List.set_cons_zero]);(with_reducible exact rfl))|(with_reducible exact rfl)|(show (_:Array ϗ)=_;exact rfl)))),ρB,G.below ρE,ρE⟩
 case round=>
  obtain⟨a,b,s,rfl,IF,hs,O0,R0,G0,IB⟩:=hrel;refine δe ?_;intro zw IK q hq;rw[hq] at IK hs ⊢;have Kk:q<=n:=ρa;have Vi:∀c ∈ b,iO c.r0 c.r1 c.r2/\(0<=S c/\S c<=4503599627370496):=λc Ku=>hc c (by rw[IF];simp[Ku]);have UQ:ai s:=ρx;have zO:=O0.size;have zR:=R0.size;cases b with
  | nil=>refine η8 ?_;intro IJ hd;change Hid _ at IK IF;clear Vi;have cO:=O0.cell;have fO:=O0.frozen;have cR:=R0.cell;have fR:=R0.frozen;go_wp2_with fail;refine eu wr (λx=>x=w.heap.size) (λv=>ah v w #[(hi (s)),(lo (s))] 232) ρB (λ_ kx=>kx) ?_;rintro v1 R1 k1;have cR1:=R1.cell;refine ZO (v:=wv s) (by simp[results,Tryz.results237,go_sem,cR1]) rfl ?_;exact⟨s,rfl,⟨by omega,by omega⟩,IB.trans (k1.below zw ρC)⟩
  | cons c r=>
   refine δb ?_;intro IJ hd;have Jm:l[q]?=some c:=ρF;have Ku:c ∈ l:=ρR;obtain⟨⟨XZ,Mn,Uu,Nd⟩,hS⟩:=Vi c ρp;have N7:(kd c.r0 c.r1 c.r2 !=0)=true:=by simpa using XZ
   obtain⟨g0,II,rfl,hg,RA⟩:=G0.at Jm;obtain⟨s2,Ja⟩:=Nq (s+S c);have Qa:ai s2:=ρx;have TQ:ai (S c):=ρx;have KG:0<=s2/\s2<=(q+1)*4503599627370496:=ρa;clear Vi XZ;change Hid _ at IK hq IF Jm hn Ja;have k0B:=IB;replace IB:=KO.of_below (F:=λ_=>False) IB;have Na:g0<wr:=ρa;have nXO:wr.heap.size≠w+1:=ρa;go_upto_region 4 with (fail);go_wp2_with (refine Go.wpList_load_mid rfl 41 _ rfl g0 (II+q*3) rfl (fo c) _ RA Tryz.underlying41 rfl ρh ?_;try simp only[fo]);refine Jc (θ4 IB O0 R0 G0) (λv=>ah v wr (aP c.r0 c.r1 c.r2) 41) ρB ?_;rintro v1 X1 ⟨F',O1,R1,G1⟩;replace cO:=O1.cell;replace fO:=O1.frozen;replace zO:=O1.size;replace cR:=R1.cell;replace fR:=R1.frozen;replace zR:=R1.size;have Rr:=X1.r;refine(ji c.r0 c.r1 c.r2 v1 ⟨Mn.1,Uu.1,Nd.1⟩ true N7).mono ?_;rintro e v2 ⟨rfl,kx⟩;obtain⟨O2,R2,G2,X2,Iz⟩:=Mw kx (θ5 O1 R1 G1 X1 F');replace cO:=O2.cell;replace fO:=O2.frozen;replace zO:=O2.size;replace cR:=R2.cell;replace fR:=R2.frozen;replace zR:=R2.size;replace Rr:=X2.r;clear kx;go_upto_region 6 with (fail);refine Zw (θ5 Iz O2 R2 G2 X2) ?_;rintro v3 ⟨ID,O3,R3,G3,X3⟩;replace cO:=O3.cell;replace fO:=O3.frozen;replace zO:=O3.size;replace cR:=R3.cell;replace fR:=R3.frozen;replace zR:=R3.size;replace Rr:=X3.r;go_region_with (first|(go_at_fn g;refine(hp c Ku _ ((ID.step0 ρE).toBelow)).mono ?_;rintro e v4 ⟨rfl,kx⟩;have kk4:Below v3 v3 v4:=Below.trans ρE (kx.mono ρp);have O4:=O3.below kk4 O3.size;have X4:=X3.below kk4 X3.size;have R4:=R3.below kk4 R3.size;have G4:=G3.below kk4;have IC:=ID.step0 kk4;have rO4:=O4.r;have cX4:=X4.cell;have zX4:=X4.size)|(go_at_call 249;refine(yz s (S c) s2 _ UQ TQ Ja.out Qa).mono ?_;rintro e v5 ⟨rfl,kx⟩;have kk5:Below v4 v4 v5:=Below.trans ρE (kx.mono ρp);have O5:=O4.below kk5 O4.size;have X5:=X4.below kk5 X4.size;have R5:=R4.below kk5 R4.size;have G5:=G4.below kk5;have IN:=IC.step0 kk5;have rO5:=O5.r;have cX5:=X5.cell;have zX5:=X5.size))
   all_goals
    go_wp2;go_roundw;case rel=>exact⟨a++[c],r,s2,by rw[ZL,hq.out];go_num,by rw[IF.out];simp,by rw[ZL,hq.out];exact⟨KG.1,Int.le_trans KG.2 ρp⟩,ρB,ρB,G5.ko (F:=λx=>x=w.heap.size+1) ρK σT,IN.toBelow.trans ρE⟩
    case measure=>exact ξc
theorem DE (c:CD)(t:Int)(T:Nat)(w:ϖ)(hc:iO c.r0 c.r1 c.r2)(ht:aq t)(HT:ah w T #[t] 39):
  CB 238 #[φ (aP c.r0 c.r1 c.r2),T] w (wv (sk c.r0 c.r1 c.r2 t)):=by
 have IB:=KO.refl (λ_=>False) w;have T0:=HT;have nT:T≠w+1:=by have:=HT.size;omega
 have Rr:=T0.r;unfold CB;go_in;go_wp2_with fail;refine mL (θ2 IB T0) (λv=>ah v (w+1) #[Ky,Ky] 232) ρB ?_;clear Rr;rintro v1 R1 ⟨F',T1⟩ Rr;replace rR:=R1.r;refine(qz c.r0 c.r1 c.r2 t (sk c.r0 c.r1 c.r2 t) v1 hc.2.1.1 hc.2.2.1.1 hc.2.2.2.1 ht rfl).mono ?_;rintro e v2 ⟨rfl,kx⟩;clear Rr;obtain⟨⟨T2,R2,Iz⟩,Rr⟩:=Mx kx (θ3 T1 R1 F');replace rR:=R2.r;clear kx;go_wp2_with fail;refine eu v2 (λx=>x=w.heap.size+1) (λv=>ah v (T) #[t] 39/\ah v (w+1) (mi (sk c.r0 c.r1 c.r2 t)) 232) ⟨ρB,ρB⟩ (λ_ kx=>(Iz.trans kx ρc)) ?_;rintro v3 ⟨T3,R3⟩ ID;replace rR:=R3.r;replace Rr:=T3.r;refine ZO (v:=wv (sk c.r0 c.r1 c.r2 t)) (by simp[results,Tryz.results238,go_sem,rR.1]) rfl ?_;exact⟨rfl,ID.toBelow⟩
theorem Bf (c:CD)(w:ϖ)(hc:iO c.r0 c.r1 c.r2):
  CB 240 #[φ (aP c.r0 c.r1 c.r2)] w (wv c.r2):=by
 have IB:=KO.refl (λ_=>False) w;unfold CB;go_in;go_wp2_with fail;refine Jc IB (λv=>ah v (w+1) #[Ky,Ky] 232) ρB ?_;rintro v1 R1 F';replace rR:=R1.r;refine(Hz c.r2 v1 hc.2.2.2.1 (by have:=hc.2.2.2;omega)).mono ?_;rintro e v2 ⟨rfl,kx⟩;obtain⟨R2,Iz⟩:=Mw kx (θ2 R1 F');replace rR:=R2.r;clear kx;go_wp2_with fail;refine eu v2 (λx=>x=w.heap.size+1) (λv=>ah v (w+1) (mi c.r2) 232) ρB (λ_ kx=>(Iz.trans kx ρc)) ?_;rintro v3 R3 ID;replace rR:=R3.r;refine ZO (v:=wv c.r2) (by simp[results,Tryz.results240,go_sem,rR.1]) rfl ?_;exact⟨rfl,ID.toBelow⟩
theorem Ix {m d n t:Int} (hc:iO m d n)(ht:kR t):0<=sk m d n t/\sk m d n t<=4503599627370496:=by have h:=xU (m:=m) (d:=d) (n:=n) (t:=t) hc.2.1.1 hc.2.2.1.1 hc.2.2.2.1 ht.1;omega
theorem Fy (sl:ϗ)(l:List CD)(t:Int)(ht:kR t)(w:ϖ)(B:Nat)(G:az 3 fo w B sl l)(hl:l.length<=49)(hc:∀c ∈ l,iO c.r0 c.r1 c.r2):Calls Ψ 187 #[sl,t] w λe w'=>∃s:Int,e=ϰ (wv s)/\(0<=s/\s<=l.length*4503599627370496)/\Below w w w':=by
 have zB:B<=w:=ρu;obtain⟨oa,oc,rfl,Tu⟩:=G.slice;obtain⟨n,hn⟩:=Nq l.length;rw[hn] at G ⊢;replace hn:=ag hn;obtain⟨sl,hv⟩:=Nq (Value.slice oa n oc);rw[hv] at G ⊢;have IB:=KO.refl (λ_=>False) w;have G0:=G;go_in;go_wp2_with fail;refine Jc (θ2 IB G0) (λv=>ah v w #[t] 39/\ah v (w+1) #[Ky,Ky] 232) ⟨ρB,ρB⟩ ?_;rintro v1 ⟨X1,R1⟩ ⟨F',G1⟩;replace rR:=R1.r;have Rr:=X1.r;refine(BM sl l (λc=>sk c.r0 c.r1 c.r2 t) 238 #[w] v1 B G1 hl (λc Ku=>⟨hc c Ku,Ix (hc c Ku) ht⟩) (enters_of Tryz.func238 ρh rfl) (λc Ku u hu=>DE c t w u (hc c Ku) ρa (X1.below hu X1.size))).mono ?_;rintro e v2 ⟨s,rfl,hs,kx⟩;clear Rr;obtain⟨⟨G2,X2,R2,Iz⟩,Rr⟩:=Mx kx (θ4 G1 X1 R1 F');replace rR:=R2.r;clear kx;go_wp2_with fail;refine eu v2 (λx=>x=w.heap.size+1) (λv=>ah v w #[t] 39/\ah v (w+1) (mi s) 232) ⟨ρB,ρB⟩ (λ_ kx=>θ2 (Iz.trans kx ρc) (G2.ko kx (λy hy=>by omega))) ?_;rintro v3 ⟨X3,R3⟩ ⟨ID,G3⟩;replace rR:=R3.r;replace Rr:=X3.r;refine ZO (v:=wv s) (by simp[results,Tryz.results187,go_sem,rR.1]) rfl ?_;exact⟨s,rfl,by rw[<- hn.out];exact hs,ID.toBelow⟩
theorem DF (sl:ϗ)(l:List CD)(w:ϖ)(B:Nat)(G:az 3 fo w B sl l)(hl:l.length<=49)(hc:∀c ∈ l,iO c.r0 c.r1 c.r2):Calls Ψ 188 #[sl] w λe w'=>∃s:Int,e=ϰ (wv s)/\(0<=s/\s<=l.length*4503599627370496)/\Below w w w':=by
 have zB:B<=w:=ρu;obtain⟨oa,oc,rfl,Tu⟩:=G.slice;obtain⟨n,hn⟩:=Nq l.length;rw[hn] at G ⊢;replace hn:=ag hn;obtain⟨sl,hv⟩:=Nq (Value.slice oa n oc);rw[hv] at G ⊢;have IB:=KO.refl (λ_=>False) w;have G0:=G;go_in;go_wp2_with fail;refine Jc (θ2 IB G0) (λv=>ah v w #[Ky,Ky] 232) ρB ?_;rintro v1 R1 ⟨F',G1⟩;replace rR:=R1.r;refine(BM sl l (λc=>c.r2) 240 #[] v1 B G1 hl (λc Ku=>⟨hc c Ku,by have:=(hc c Ku).2.2.2;omega⟩) (enters_of Tryz.func240 ρh rfl) (λc Ku u hu=>Bf c u (hc c Ku))).mono ?_;rintro e v2 ⟨s,rfl,hs,kx⟩;obtain⟨G2,R2,Iz⟩:=Mw kx (θ3 G1 R1 F');replace rR:=R2.r;clear kx;go_wp2_with fail;refine eu v2 (λx=>x=w.heap.size) (λv=>ah v w (mi s) 232) ρB (λ_ kx=>θ2 (Iz.trans kx ρc) (G2.ko kx (λy hy=>by omega))) ?_;rintro v3 R3 ⟨ID,G3⟩;replace rR:=R3.r;refine ZO (v:=wv s) (by simp[results,Tryz.results188,go_sem,rR.1]) rfl ?_;exact⟨s,rfl,by rw[<- hn.out];exact hs,ID.toBelow⟩
theorem DG (s t:Int)(w:ϖ)(hs:0<=s/\s<=288230376151711744)(ht:0<=t/\t<=65536):
  CB 236 #[wv s,ι ε t] w (wv (s*t)):=by
 have h1:hi s=0:=κo;have h2:lo s=s:=by unfold lo;omega
 have hw:IntKind.u64.wrap t=t:=ZZ _ ⟨by omega,by omega⟩;obtain⟨p,hp⟩:=Nq (s*t);have hpr:0<=p/\p<=18889465931478580854784:=τi;have hph:0<=hi p/\hi p<=Ma:=κo;have Yn:IntKind.u64.wrap (hi p)=hi p:=ZZ _ ⟨hph.1,by omega⟩;have IB:=KO.refl (λ_=>False) w;have hsv:wv s=φ #[Ky,s]:=by show Value.agg _=_;rw[h1,h2]
 rw[hsv];clear h1 h2 hsv;unfold CB;go_in;go_wp2_with fail;refine Jc IB (λv=>ah v w #[Ky,s] 232/\ah v (w+1) #[Ky,Ky] 232) ⟨ρB,ρB⟩ ?_;rintro v1 ⟨S1,R1⟩ F';replace rR:=R1.r;have Rr:=S1.r;refine(rh s t t p v1 ρa ρa rfl hp).mono ?_;rintro e v2 ⟨rfl,kx⟩;clear Rr;obtain⟨⟨S2,R2,Iz⟩,Rr⟩:=Mx kx (θ3 S1 R1 F');replace rR:=R2.r;clear kx;replace hp:=ag hp;go_upto_region 2 with (fail);have hXw:w.heap.size+1<v2:=rR.2.2;refine jf (θ3 Iz S2 R2) (λv=>ah v v2 (mi p) 232) ρB ?_;clear Rr;rintro v3 X3 ⟨ID,S3,R3⟩ Rr;replace rR:=R3.r;replace cX:=X3.cell;replace fX:=X3.frozen;replace zX:=X3.size;obtain⟨X,hX⟩:=Nq v2.heap.size;rw[hX] at X3 cX fX zX hXw ⊢;clear hX;have hXR:X≠w+1:=ρa;go_wp2_with fail;refine eu v3 (λx=>x=w.heap.size+1\/x=X) (λv=>ah v w #[Ky,s] 232/\ah v (w+1) (mi p) 232/\ah v (X) (mi p) 232) ⟨ρB,ρB,ρB⟩ (λ_ kx=>(ID.trans kx ρc)) ?_;rintro v5 ⟨S5,R5,X5⟩ IN;replace rR:=R5.r;replace Rr:=S5.r;replace cX:=X5.cell;replace fX:=X5.frozen;replace zX:=X5.size;refine ZO (v:=wv p) (by simp[results,Tryz.results236,go_sem,rR.1]) rfl ?_;exact⟨by rw[hp.out],IN.toBelow⟩
theorem yo (s t x:Int)(w:ϖ)(hs:0<=s/\s<=288230376151711744)(ht:0<=t/\t<=65536)(hx:kR x):
  CB 186 #[wv s,ι ε t,x] w (β (decide (0<kG (s*t) (65536*x)))):=by
 obtain⟨p,hp⟩:=Nq (s*t);obtain⟨r,hr⟩:=Nq (65536*x);obtain⟨c,hc⟩:=Nq (kG p r);have hpr:0<=p/\p<=18889465931478580854784:=τi;have MG:ai p:=ρx;have r128:ai r:=ρx;have cT:=λu=>DG s t u hs ht;rw[hp] at cT;rw[hp,hr,hc];change Hid _ at hp hr hc cT;unfold CB;go_in;go_wp2_with (first|(go_at_call 236;refine(cT.out _).mono ?_;rintro e u1 ⟨rfl,kx1⟩)|(go_at_call 211;refine(rh 65536 x x r _ ρa ρa rfl hr.out).mono ?_;rintro e u2 ⟨rfl,Tx⟩)|(go_at_call 235;refine(nF p r c _ MG r128 hc.out).mono ?_;rintro e u3 ⟨rfl,kx3⟩));go_ret;have b1:Below w w u1:=Below.trans ρE (kx1.mono ρp);have b2:Below w w u2:=b1.trans (Tx.mono b1.size);exact⟨rfl,b2.trans (kx3.mono b2.size)⟩
theorem Fv (c:CD)(w:ϖ)(hc:iO c.r0 c.r1 c.r2):
  CB 181 #[φ (aP c.r0 c.r1 c.r2)] w dI:=by
 have N7:(kd c.r0 c.r1 c.r2 !=0)=true:=by have:=hc.1;simpa using this
 unfold CB;go_in;go_wp2_with (go_at_call 182;refine(ji c.r0 c.r1 c.r2 _ ⟨hc.2.1.1,hc.2.2.1.1,hc.2.2.2.1⟩ true N7).mono ?_;rintro e u1 ⟨rfl,kx⟩);go_ret;exact⟨rfl,Below.trans ρE (kx.mono ρp)⟩
theorem Ba (sl:ϗ)(l:List CD)(w:ϖ)(B:Nat)(G:az 3 fo w B sl l)(hl:l.length<=49)(hc:∀c ∈ l,iO c.r0 c.r1 c.r2):
  CB 232 #[sl,.func (.func 181) #[] #[]] w (ι ε (-1)):=by
 have zB:B<=w:=ρu;obtain⟨oa,oc,rfl,-⟩:=G.slice;obtain⟨n,hn⟩:=Nq l.length;rw[hn] at G hl ⊢;have g:=enters_of Tryz.func181 ρh rfl;unfold CB;go_in;go_wp2_with fail;go_loopw [8] (λk wr=>∃(a b:List CD),k=ι ε (a.length:Nat)/\l=a++b/\az 3 fo wr B (ζ oa n oc) l/\Below w w wr) (λk _=>n - (intOf k).toNat);case atStart=>exact⟨[],l,rfl,rfl,G.below ρE,ρE⟩
 case round=>
  obtain⟨a,b,rfl,IF,G0,IB⟩:=hrel;refine δe ?_;intro zw IK q hq;rw[hq] at IK ⊢;cases b with
  | nil=>refine η8 ?_;intro IJ hd;go_wp2;go_ret;exact⟨rfl,IB.trans ρE⟩
  | cons c r=>
   refine δb ?_;intro IJ hd;have Jm:l[q]?=some c:=ρF;have Ku:c ∈ l:=ρR;obtain⟨g0,II,rfl,hg,RA⟩:=G0.at Jm;change Hid _ at IK hq IF Jm hn;have Na:g0<wr:=ρa;go_upto_region 4 with (fail);go_wp2_with (refine Go.wpList_load_mid rfl 41 _ rfl g0 (II+q*3) rfl (fo c) _ RA Tryz.underlying41 rfl ρh ?_;try simp only[fo]);refine av wr (λv=>Below wr wr v) (λv=>Below wr wr v) ρE (λkx=>kx) ?_;rintro v1 k1;refine(Fv c v1 (hc c Ku)).mono ?_;rintro e v2 ⟨rfl,kx⟩;have KQ:=k1.trans (kx.mono k1.size);go_wp2;go_roundw;case rel=>exact⟨a++[c],r,by rw[ZL,hq.out];go_num,by rw[IF.out];simp,(G0.below KQ).below ρE,(IB.trans (KQ.mono zw)).trans ρE⟩
   case measure=>exact ξc
theorem Dy (sl:ϗ)(l:List CD)(w:ϖ)(B:Nat)(G:az 3 fo w B sl l)(hl:l.length<=49)(hc:∀c ∈ l,iO c.r0 c.r1 c.r2):
  CB 180 #[sl,.func (.func 181) #[] #[]] w dI:=by
 unfold CB;go_in;go_wp2_with fail;refine δR ?_;rintro v1 k1;refine(Ba sl l v1 B (G.below k1) hl hc).mono ?_;rintro e v2 ⟨rfl,kx⟩;go_wp2;go_ret;exact⟨rfl,(k1.trans (kx.mono k1.size)).trans ρE⟩
theorem Fu (t:Int)(ht:1<=t/\t<=65536)(sl:ϗ)(l:List CD)(w:ϖ)(B:Nat)(G:az 3 fo w B sl l)(hl:l.length<=49)(hc:∀c ∈ l,iO c.r0 c.r1 c.r2):
  CB 144 #[ι ε t,sl] w Kz:=by
 have d1:=df (t<1);have d2:=df (65536<t);obtain⟨oa,oc,rfl,Tu⟩:=G.slice;obtain⟨n,hn⟩:=Nq l.length;rw[hn] at G ⊢;replace hn:=ag hn;obtain⟨sl,MD⟩:=Nq (Value.slice oa n oc);rw[MD] at G ⊢;unfold CB;go_in;go_wp2_with fail;refine δR ?_;rintro v1 k1;refine(Dy sl l v1 B (G.below k1) hl hc).mono ?_;rintro e v2 ⟨rfl,kx⟩;go_wp2;go_ret;exact⟨rfl,(k1.trans (kx.mono k1.size)).trans ρE⟩
theorem Bc (G n IM:Nat)(f:Nat->Int)(g:Nat)(lb:Array ϗ)(w:ϖ)(U:UR w G n f)(hn:n<=49)(eg:∀args w,(callFunc g args).run Ψ w=.ok (.enter g args) w)(hp:∀x,0<=x/\x<=1048576->∀v,Below w w v->Calls Ψ g (#[ι υ x]++lb) v λe v'=>∃b:Bool,e=ϰ (β b)/\Below v v v'):Calls Ψ 184 #[tu G n IM,.func (.func g) #[] lb] w λe w'=>∃i:Int,e=ϰ (ι ε i)/\-1<=i/\i<n/\Below w w w':=by
 go_in;go_wp2_with fail;go_loopw [8] (λk wr=>∃q:Nat,k=ι ε q/\q<=n/\UR wr G n f/\Below w w wr) (λk _=>n - (intOf k).toNat);case atStart=>exact⟨0,rfl,by omega,U.below ρE,ρE⟩
 case round=>
  obtain⟨q,rfl,hq,U0,IB⟩:=hrel;have zw:=IB.size;by_cases c1:q<n
  rotate_left
  ·have d1:=ZF c1;go_wp2;go_ret;exact⟨-1,rfl,by omega,by omega,IB.trans ρE⟩
  have d1:=ZT c1;have l1:=U0.cell (i:=q) c1;have zG:=U0.size;go_wp2_with fail;refine av wr (λv=>Below wr wr v) (λv=>Below wr wr v) ρE (λkx=>kx) ?_;rintro v1 k1;refine(hp (f q) (U0.1 q) v1 (IB.trans (k1.mono zw))).mono ?_;rintro e v2 ⟨b,rfl,kx⟩;have KQ:=k1.trans (kx.mono k1.size);have U2:=U0.below KQ;cases b with
  | true=>go_wp2;go_ret;exact⟨q,rfl,by omega,by omega,(IB.trans (KQ.mono zw)).trans ρE⟩
  | false=>
   go_wp2;go_roundw;case rel=>exact⟨q+1,by first|rfl|(congr 1;omega)|go_num,by omega,U2.below ρE,(IB.trans (KQ.mono zw)).trans ρE⟩
   case measure=>exact ξe
theorem Bb (fv:ϗ)(w:ϖ):
  CB 184 #[Kn,fv] w (ι ε (-1)):=by
 unfold CB;go_in;go_wp2_with fail;go_loopw [8] (λk wr=>k=Kz/\Below w w wr) (λk _=>0);case atStart=>exact⟨rfl,ρE⟩
 case round=>
  obtain⟨rfl,IB⟩:=hrel;go_wp2;go_ret;exact⟨rfl,IB.trans ρE⟩
theorem Dz (t x:Int)(ht:1<=t/\t<=65536)(hx:kR x)(PL PT:Nat)(sl:ϗ)(l:List CD)(w:ϖ)(B:Nat)(G:az 3 fo w B sl l)(hl:l.length<=49)(hc:∀c ∈ l,iO c.r0 c.r1 c.r2)(HL:ah w PL #[sl] 115)(HT:ah w PT #[ι ε t] 3):Calls Ψ 185 #[x,PL,PT] w λe w'=>∃b:Bool,e=ϰ (β b)/\Below w w w':=by
 obtain⟨oa,oc,rfl,Tu⟩:=G.slice;obtain⟨n,hn⟩:=Nq l.length;rw[hn] at G HL;replace hn:=ag hn;obtain⟨sl,MD⟩:=Nq (Value.slice oa n oc);rw[MD] at G HL;have cL:=HL.cell;have zL:=HL.size;have cT:=HT.cell;have zT:=HT.size;go_in;go_upto_region 1 with (fail);refine aU w (λv=>Below w w v) (λv=>Below w w v/\ah v PL #[sl] 115/\ah v PT #[ι ε t] 3) ρE (λkx=>⟨kx,HL.below kx zL,HT.below kx zT⟩) ?_;rintro v1 ⟨k1,L1,T1⟩;have G1:=G.below k1;replace cL:=L1.cell;replace zL:=L1.size;replace cT:=T1.cell;replace zT:=T1.size;go_region_with (first|(go_at_call 187;refine(Fy sl l x hx _ B (G1.below ρE) hl hc).mono ?_;rintro e v2 ⟨s,rfl,hs,kx⟩;have KQ:Below v1 v1 v2:=Below.trans ρE (kx.mono ρp);have L2:=L1.below KQ L1.size;have T2:=T1.below KQ T1.size;have cT2:=T2.cell;have zT2:=T2.size;have PM:0<=s/\s<=288230376151711744:=⟨hs.1,by have h9:(l.length:Int)<=49:=ρa;omega⟩)|(go_at_call 186;refine(yo s t x _ PM ρa hx).mono ?_;rintro e v3 ⟨rfl,ky⟩;have NT:Below v2 v2 v3:=Below.trans ρE (ky.mono ρp)))
 all_goals
  go_wp2;go_ret;exact⟨_,rfl,((k1.trans (KQ.mono k1.size)).trans (NT.mono (ZK k1.size KQ.size))).trans ρE⟩
theorem Fr (t:Int)(ht:1<=t/\t<=65536)(sl:ϗ)(l:List CD)(w:ϖ)(B:Nat)(G:az 3 fo w B sl l)(hl:l.length<=49)(hc:∀c ∈ l,iO c.r0 c.r1 c.r2):Calls Ψ 145 #[ι ε t,sl] w λe w'=>∃(k:Int)(b:Bool),e=ϰ (χ #[k,β b])/\Below w w w'/\(l=[]->b=false):=by
 obtain⟨oa,oc,rfl,Tu⟩:=G.slice;obtain⟨n,hn⟩:=Nq l.length;rw[hn] at G ⊢;replace hn:=ag hn;have G0:=G;have IB:=KO.refl (λ_=>False) w;go_in;go_wp2_with fail;refine Jc (θ2 IB G0) (λv=>ah v w #[ι ε t] 3/\ah v (w+1) #[ζ oa n oc] 115) ⟨ρB,ρB⟩ ?_;rintro v1 ⟨T1,L1⟩ ⟨F',G1⟩;replace cT:=T1.cell;replace fT:=T1.frozen;replace zT:=T1.size;replace cL:=L1.cell;replace fL:=L1.frozen;replace zL:=L1.size;refine(Fu t ht (ζ oa n oc) l v1 B G1 hl hc).mono ?_;rintro e v2 ⟨rfl,kx⟩;obtain⟨G2,T2,L2,Iz⟩:=Mw kx (θ4 G1 T1 L1 F');replace cT:=T2.cell;replace fT:=T2.frozen;replace zT:=T2.size;replace cL:=L2.cell;replace fL:=L2.frozen;replace zL:=L2.size;clear kx;go_wp2_with fail;refine Zc (θ4 Iz G2 T2 L2) ?_;rintro v3 ⟨ID,G3,T3,L3⟩;replace cT:=T3.cell;replace fT:=T3.frozen;replace zT:=T3.size;replace cL:=L3.cell;replace fL:=L3.frozen;replace zL:=L3.size;refine(DA (ζ oa n oc) l v3 B G3 hl hc).mono ?_;rintro e v4 ⟨u,rfl,kx,hu⟩;obtain⟨G4,T4,L4,IC⟩:=Mw kx (θ4 G3 T3 L3 ID);replace cT:=T4.cell;replace fT:=T4.frozen;replace zT:=T4.size;replace cL:=L4.cell;replace fL:=L4.frozen;replace zL:=L4.size;clear kx;rcases hu with rfl|⟨g,m,IM,rfl,hm,JA,hU,IX⟩
 ·go_wp2_with fail;refine Zc (θ4 IC G4 T4 L4) ?_;rintro v5 ⟨IN,G5,T5,L5⟩;replace cT:=T5.cell;replace fT:=T5.frozen;replace zT:=T5.size;replace cL:=L5.cell;replace fL:=L5.frozen;replace zL:=L5.size;refine(Bb _ v5).mono ?_;rintro e v6 ⟨rfl,kx⟩;obtain⟨G6,T6,L6,IQ⟩:=Mw kx (θ4 G5 T5 L5 IN);replace cT:=T6.cell;replace fT:=T6.frozen;replace zT:=T6.size;replace cL:=L6.cell;replace fL:=L6.frozen;replace zL:=L6.size;clear kx;have e1:decide (0<=(-1:Int))=false:=rfl;exact ξd
 ·have U4:=hU;clear hU;go_wp2_with fail;refine Zc (θ5 IC G4 T4 L4 U4) ?_;rintro v5 ⟨IN,G5,T5,L5,U5⟩;replace cT:=T5.cell;replace fT:=T5.frozen;replace zT:=T5.size;replace cL:=L5.cell;replace fL:=L5.frozen;replace zL:=L5.size;obtain⟨f,UF⟩:=U5;have GG:=G5;have LL:=L5;have TT:=T5;refine(Bc g m IM f 185 #[ψ (some ⟨w+1,0,none⟩),w] v5 UF hm (enters_of Tryz.func185 ρh rfl) (λx hx v hv=>Dz t x ht hx (w+1) w (ζ oa n oc) l v B (GG.below hv) hl hc (LL.below hv LL.size) (TT.below hv TT.size))).mono ?_;rintro e v6 ⟨i,rfl,hi1,hi2,kx⟩;obtain⟨U6,G6,L6,T6,IQ⟩:=Mw kx (θ5 UF G5 L5 T5 IN);clear cL fL zL cT fT zT;have cL:=L6.cell;have fL:=L6.frozen;have zL:=L6.size;have cT:=T6.cell;have fT:=T6.frozen;have zT:=T6.size;by_cases c1:0<=i
  ·have d1:=ZT c1;obtain⟨q,rfl⟩:∃q:Nat,i=(q:Int):=⟨i.toNat,by omega⟩;have l1:=U6.cell (i:=q) ρa;have hq:q<m:=ρa;go_wp2;go_ret2;exact⟨_,_,rfl,(IQ.step0 ρE).toBelow,λe=>ax e IX⟩
  ·have d1:=ZF c1;exact ξd
theorem Da (v:ϗ)(L:List CD)(Ly:∀c ∈ L,(0<=c.r0/\0<=c.r1/\0<=c.r2)/\kd c.r0 c.r1 c.r2≠0)(w:ϖ)(B:Nat)(G:az 3 fo w B v L)(hl:L.length<=1000):Calls Ψ 99 #[v] w λe w'=>∃u,e=ϰ u/\∃D,ae 39 1 BL w' w u D/\D.length<=L.length/\(∀c ∈ L,3<=kd c.r0 c.r1 c.r2->c.r1 ∈ D)/\(∀d ∈ D,0<=d/\d<=1048576)/\Below w w w':=by
 obtain⟨oa,oc,rfl,-⟩:=G.slice;refine δi ?_;clear G hl;intro n hn G hl zB;go_in;go_wp2_with fail;go_loopw [3,12] (λo k wr=>∃(a b:List CD) (D:List Int),k=ι ε (a.length:Nat)/\L=a++b/\D.length<=a.length/\(∀c ∈ a,3<=kd c.r0 c.r1 c.r2->c.r1 ∈ D)/\(∀d ∈ D,0<=d/\d<=1048576)/\ae 39 1 BL wr w o D/\az 3 fo wr B (ζ oa n oc) L/\KO (λ_=>False) w wr) (λ_ k _=>n - (intOf k).toNat);case atStart=>exact⟨[],L,[],rfl,rfl,ZR _,λc h=>ax h ρp,λd h=>ax h ρp,ae.nil _ _,G.below ρE,ρK⟩
 case round=>
  obtain⟨a,b,D,rfl,IF,KZ,I3,Vf,H0,G0,IB⟩:=hrel;refine δe ?_;intro zw IK q hq;obtain⟨ob,oe,rfl⟩:=ae.slice H0;obtain⟨m,hm⟩:=Nq D.length;rw[hq] at IK KZ ⊢;have HF:D.length<=1000:=ρa;rw[hm] at KZ H0 ⊢;have hm9:m<=1000:=ρa;replace hm:=ag hm;cases b with
  | nil=>refine η8 ?_;intro IJ hd;have Ke:L=a:=ρN;change Hid _ at IK IF hq Ke I3 Vf;go_wp2;go_ret;exact⟨_,rfl,D,ae.below H0 ρE,by rw[hm.out];have:=IK.out;simp at this;omega,by rw[Ke.out];exact I3.out,Vf.out,IB.toBelow.trans ρE⟩
  | cons c r=>
   refine δF ?_;intro IJ hd Jm KL;obtain⟨g0,II,rfl,hg,RA⟩:=G0.at Jm;have Na:g0<wr:=ρa;obtain⟨JG,Wl⟩:=Ly c ρR;obtain⟨kv,LW⟩:=Nq (kd c.r0 c.r1 c.r2);have Uu:0<=c.r1/\c.r1<=1048576:=by have:=gO Wl;omega
   clear Wl;change Hid _ at IK hq IF Jm LW I3 Vf hn;go_upto_region 4 with (fail);go_upto_region 5 with (refine Go.wpList_load_mid rfl 41 _ rfl g0 (II+q*3) rfl (fo c) _ RA Tryz.underlying41 rfl ρh ?_;try simp only[fo]);refine Jw (θ3 IB H0 G0) (λv=>ah v wr (aP c.r0 c.r1 c.r2) 41) ρB ?_;rintro v1 X1 ⟨F',H1,G1⟩;replace cX:=X1.cell;replace fX:=X1.frozen;replace zX:=X1.size;go_wp2_with fail;refine Zc (θ4 F' H1 G1 X1) ?_;rintro v2 ⟨Iz,H2,G2,X2⟩;replace cX:=X2.cell;replace fX:=X2.frozen;replace zX:=X2.size;refine(bi c.r0 c.r1 c.r2 kv v2 JG.1 JG.2.1 JG.2.2 LW.out).mono ?_;rintro e v3 ⟨rfl,kx⟩;obtain⟨H3,G3,X3,ID⟩:=Mw kx (θ4 H2 G2 X2 Iz);replace cX:=X3.cell;replace fX:=X3.frozen;replace zX:=X3.size;clear kx;by_cases c1:kv<3
   ·have d1:=ZT c1;replace c1:=ag c1;go_wp2;go_roundw;case rel=>exact⟨a++[c],r,D,by rw[ZL,hq.out];go_num,by rw[IF.out];simp,by rw[ZL,hq.out,hm.out];simp;omega,λy hy g=>(ZM.1 hy).elim (λh=>I3.out y h g) (λh=>by rw[ZS.1 h,LW.out] at g;exact ax g (by have:=c1.out;omega)),Vf.out,ae.below H3 ρE,G3.below ρE,ID.step0 ρE⟩
    case measure=>exact ξc
   have d1:=ZF c1;replace c1:=ag c1;have Z3:=ae.rd H3 (λ_=>rfl);obtain⟨B2,N0⟩:=Nq v3.heap.size;have hWB:wr<B2:=by rw[<- N0];exact X3.size
   rw[N0] at Z3;have hB2':B2<=v3:=ρa;have hBB:B<B2:=ρa;have hwB2:w<=B2:=ρa;clear N0;obtain⟨W,rfl⟩:∃W:ϖ,W=wr:=⟨_,rfl⟩;go_wp2_with fail;go_loopw [6,7,21] (λo t k wr=>∃(e f M:List Int) (z:Bool),k=ι ε (e.length:Nat)/\t=β z/\D=e++f/\M.length<=e.length+(if z=true then 1 else 0)/\(z=true->c.r1 ∈ M)/\(∀d ∈ e,d ∈ M\/d=c.r1/\z=true)/\(∀d ∈ M,0<=d/\d<=1048576)/\ae 39 1 BL wr B2 o M/\az 1 BL wr B2 (ζ ob m oe) D/\ah wr W (aP c.r0 c.r1 c.r2) 41/\az 3 fo wr B (ζ (some ⟨g0,II,none⟩) n oc) L/\KO (λ_=>False) w wr) (λ_ _ k _=>m - (intOf k).toNat);case atStart=>exact⟨[],D,[],false,rfl,rfl,rfl,by simp,λh=>ax h ρf,λd h=>ax h ρp,λd h=>ax h ρp,ae.nil _ _,Z3.below ρE,ρB,G3.below ρE,ID.step0 ρE⟩
   case round=>
    obtain⟨e,f,M,z,rfl,rfl,Qi,Qh,Oc,RI,LP,J4,Z4,X4,G4,IC⟩:=hrel;have zw4:=IC.size;have zZ4:B2<=wr:=by obtain⟨_,_,_,_,h,_⟩:=Z4;exact h
    clear H3 Z3 G3 ID X3 cX fX zX;have cX:=X4.cell;have fX:=X4.frozen;have zX:=X4.size;have MY:e.length+f.length=m:=by rw[<- hm.out,Qi,ZL]
    obtain⟨p,hp⟩:=Nq e.length;obtain⟨oj,ok,rfl⟩:=ae.slice J4;rw[hp] at MY Qh ⊢;have hM9:M.length<=2000:=by split at Qh<;>omega
    cases f with
    | nil=>
     have Kg:¬(p:Int)<(m:Int):=by simp at MY;omega
     have Li:=ZF Kg;have hDe:D=e:=by rw[Qi,ZA]
     have hpm:p=m:=by simp at MY;omega
     cases z with
     | true=>
      have hL:=ag (show (M).length<=(a++[c]).length by simp only[ZL,rq,hq.out];simp at Qh;omega);have hA:=ag (show ∀y ∈ a++[c],3<=kd y.r0 y.r1 y.r2->y.r1 ∈ M from λy hy g=>by (have h1:=I3.out y;rw[hDe] at h1;have h2:=RI y.r1;simp at hy Oc h2 ⊢;rcases hy with h|h;(have h3:=h2 (h1 h g);grind);(rw[h];first|exact Oc|simp)));have hB:=ag (show ∀d ∈ M,0<=d/\d<=1048576 from λd hd=>by first|exact LP d hd|(rcases ZM.1 hd with h|h;exact LP d h;rw[ZS.1 h];exact Uu));change Hid _ at MY Qi hp hDe Oc RI LP Qh;go_wp2;go_roundw;case rel=>exact⟨a++[c],r,M,by rw[ZL,hq.out];go_num,by rw[IF.out];simp,hL.out,hA.out,hB.out,(ae.below J4 ρE).base_le hwB2,G4.below ρE,IC.step0 ρE⟩
      case measure=>exact ξc
     | false=>
      have hL:=ag (show (M++[c.r1]).length<=(a++[c]).length by simp only[ZL,rq,hq.out];simp at Qh;omega);have hA:=ag (show ∀y ∈ a++[c],3<=kd y.r0 y.r1 y.r2->y.r1 ∈ M++[c.r1] from λy hy g=>by (have h1:=I3.out y;rw[hDe] at h1;have h2:=RI y.r1;simp at hy Oc h2 ⊢;rcases hy with h|h;(have h3:=h2 (h1 h g);grind);(rw[h];first|exact Oc|simp)));have hB:=ag (show ∀d ∈ M++[c.r1],0<=d/\d<=1048576 from λd hd=>by first|exact LP d hd|(rcases ZM.1 hd with h|h;exact LP d h;rw[ZS.1 h];exact Uu));change Hid _ at MY Qi hp hDe Oc RI LP Qh;go_wp2_with (refine au Tryz.underlying197 ep rfl (λ_=>rfl) ρI ρf ρf rfl (.tmp 49) (.tmp 52) rfl B2 (ζ oj M.length ok) M c.r1 wr #[c.r1] rfl ρr ρr (J4.below ρE) ρB ρa ρJ ?_;intro o5 v5 J5 kx;replace kx:=kx.of_alloc;have Z5:=Z4.ko kx (λy hy=>ae.notown J4 ρa);have X5:=X4.ko kx (ae.notown J4 ρa);have G5:=G4.ko kx (λy hy=>ae.notown J4 ρa);have IN:KO (λ_=>False) w v5:=IC.trans kx σP;have zk5:=IN.size;replace cX:=X5.cell;replace fX:=X5.frozen;replace zX:=X5.size);go_roundw;case rel=>exact⟨a++[c],r,M++[c.r1],by rw[ZL,hq.out];go_num,by rw[IF.out];simp,hL.out,hA.out,hB.out,(ae.below J5 ρE).base_le hwB2,G5.below ρE,IN.step0 ρE⟩
      case measure=>exact ξc
    | cons d s=>
     have Kg:(p:Int)<(m:Int):=by simp at MY;omega
     have Li:=ZT Kg;have hcd:D[p]?=some d:=by rw[Qi,<- hp];simp
     obtain⟨g1,PQ,rfl,hg1,Zg⟩:=Z4.at hcd;have b0:wr.cell? ⟨g1,PQ+p*1,none⟩=some (ι υ d):=Zg 0 _ rfl;have bb:wr.cell? ⟨g1,PQ+p,none⟩=some (ι υ d):=τu;have hdd:0<=d/\d<=1048576:=Vf.out d (by rw[Qi];simp);have hgw1:g1<wr:=ρa;by_cases c2:d=c.r1
     ·have e2:(d !=c.r1)=false:=by simp[c2]
      cases z with
      | true=>
       have hL:=ag (show (M).length<=p+1+(if true=true then 1 else 0) by (try simp only[ZL,rq]);(try simp at Qh);(try simp);omega);have hZ:=ag (show true=true->c.r1 ∈ M from by (try simp at Oc ⊢);(try grind));have hE:=ag (show ∀x ∈ e++[d],x ∈ M\/x=c.r1/\true=true from λx hx=>by have h2:=RI x;simp at hx h2 Oc ⊢;grind);have hB:=ag (show ∀x ∈ M,0<=x/\x<=1048576 from λx hx=>by have h2:=LP x;(try simp at hx);grind);change Hid _ at MY Qi hp Oc RI LP Qh hcd;go_wp2;go_roundw;case rel=>exact⟨e++[d],s,M,true,by rw[ZL,hp.out];go_num,rfl,by rw[Qi.out];simp,by have:=hL.out;(try simp only[ZL,rq,hp.out] at this ⊢);exact this,hZ.out,hE.out,hB.out,ae.below J4 ρE,Z4.below ρE,ρB,G4.below ρE,IC.step0 ρE⟩
       case measure=>exact ηO
      | false=>
       have e3:=dt (c.r1<=d);have hL:=ag (show (M++[c.r1]).length<=p+1+(if true=true then 1 else 0) by (try simp only[ZL,rq]);(try simp at Qh);(try simp);omega);have hZ:=ag (show true=true->c.r1 ∈ M++[c.r1] from by (try simp at Oc ⊢);(try grind));have hE:=ag (show ∀x ∈ e++[d],x ∈ M++[c.r1]\/x=c.r1/\true=true from λx hx=>by have h2:=RI x;simp at hx h2 Oc ⊢;grind);have hB:=ag (show ∀x ∈ M++[c.r1],0<=x/\x<=1048576 from λx hx=>by have h2:=LP x;(try simp at hx);grind);change Hid _ at MY Qi hp Oc RI LP Qh hcd;go_wp2_with (refine au Tryz.underlying197 ep rfl (λ_=>rfl) ρI ρf ρf rfl (.tmp 33) (.tmp 36) rfl B2 (ζ oj M.length ok) M c.r1 wr #[c.r1] rfl ρr ρr (J4.below ρE) ρB ρa ρJ ?_;intro o5 v5 J5 kx;replace kx:=kx.of_alloc;have Z5:=Z4.ko kx (λy hy=>ae.notown J4 ρa);have X5:=X4.ko kx (ae.notown J4 ρa);have G5:=G4.ko kx (λy hy=>ae.notown J4 ρa);have IN:KO (λ_=>False) w v5:=IC.trans kx σP;have zk5:=IN.size;replace cX:=X5.cell;replace fX:=X5.frozen;replace zX:=X5.size);go_roundw;case rel=>exact⟨e++[d],s,(M++[c.r1]),true,by rw[ZL,hp.out];go_num,rfl,by rw[Qi.out];simp,by have:=hL.out;(try simp only[ZL,rq,hp.out] at this ⊢);exact this,hZ.out,hE.out,hB.out,ae.below J5 ρE,Z5.below ρE,ρB,G5.below ρE,IN.step0 ρE⟩
       case measure=>exact ηO
     ·have e2:(d !=c.r1)=true:=by simpa using c2
      cases z with
      | true=>
       have hL:=ag (show (M++[d]).length<=p+1+(if true=true then 1 else 0) by (try simp only[ZL,rq]);(try simp at Qh);(try simp);omega);have hZ:=ag (show true=true->c.r1 ∈ M++[d] from by (try simp at Oc ⊢);(try grind));have hE:=ag (show ∀x ∈ e++[d],x ∈ M++[d]\/x=c.r1/\true=true from λx hx=>by have h2:=RI x;simp at hx h2 Oc ⊢;grind);have hB:=ag (show ∀x ∈ M++[d],0<=x/\x<=1048576 from λx hx=>by have h2:=LP x;(try simp at hx);grind);change Hid _ at MY Qi hp Oc RI LP Qh hcd;go_wp2_with (refine au Tryz.underlying197 ep rfl (λ_=>rfl) ρI ρf ρf rfl (.tmp 42) (.tmp 44) rfl B2 (ζ oj M.length ok) M d wr #[d] rfl ρr ρr (J4.below ρE) ρB ρa ρJ ?_;intro o5 v5 J5 kx;replace kx:=kx.of_alloc;have Z5:=Z4.ko kx (λy hy=>ae.notown J4 ρa);have X5:=X4.ko kx (ae.notown J4 ρa);have G5:=G4.ko kx (λy hy=>ae.notown J4 ρa);have IN:KO (λ_=>False) w v5:=IC.trans kx σP;have zk5:=IN.size;replace cX:=X5.cell;replace fX:=X5.frozen;replace zX:=X5.size);go_roundw;case rel=>exact⟨e++[d],s,(M++[d]),true,by rw[ZL,hp.out];go_num,rfl,by rw[Qi.out];simp,by have:=hL.out;(try simp only[ZL,rq,hp.out] at this ⊢);exact this,hZ.out,hE.out,hB.out,ae.below J5 ρE,Z5.below ρE,ρB,G5.below ρE,IN.step0 ρE⟩
       case measure=>exact ηO
      | false=>
       by_cases c3:c.r1<=d
       rotate_left
       ·have e3:=ZF c3;have hL:=ag (show (M++[d]).length<=p+1+(if false=true then 1 else 0) by (try simp only[ZL,rq]);(try simp at Qh);(try simp);omega);have hZ:=ag (show false=true->c.r1 ∈ M++[d] from by (try simp at Oc ⊢);(try grind));have hE:=ag (show ∀x ∈ e++[d],x ∈ M++[d]\/x=c.r1/\false=true from λx hx=>by have h2:=RI x;simp at hx h2 Oc ⊢;grind);have hB:=ag (show ∀x ∈ M++[d],0<=x/\x<=1048576 from λx hx=>by have h2:=LP x;(try simp at hx);grind);change Hid _ at MY Qi hp Oc RI LP Qh hcd;go_wp2_with (refine au Tryz.underlying197 ep rfl (λ_=>rfl) ρI ρf ρf rfl (.tmp 42) (.tmp 44) rfl B2 (ζ oj M.length ok) M d wr #[d] rfl ρr ρr (J4.below ρE) ρB ρa ρJ ?_;intro o5 v5 J5 kx;replace kx:=kx.of_alloc;have Z5:=Z4.ko kx (λy hy=>ae.notown J4 ρa);have X5:=X4.ko kx (ae.notown J4 ρa);have G5:=G4.ko kx (λy hy=>ae.notown J4 ρa);have IN:KO (λ_=>False) w v5:=IC.trans kx σP;have zk5:=IN.size;replace cX:=X5.cell;replace fX:=X5.frozen;replace zX:=X5.size);go_roundw;case rel=>exact⟨e++[d],s,(M++[d]),false,by rw[ZL,hp.out];go_num,rfl,by rw[Qi.out];simp,by have:=hL.out;(try simp only[ZL,rq,hp.out] at this ⊢);exact this,hZ.out,hE.out,hB.out,ae.below J5 ρE,Z5.below ρE,ρB,G5.below ρE,IN.step0 ρE⟩
        case measure=>exact ηO
       ·have e3:=ZT c3;have hL:=ag (show (M++[c.r1]++[d]).length<=p+1+(if true=true then 1 else 0) by (try simp only[ZL,rq]);(try simp at Qh);(try simp);omega);have hZ:=ag (show true=true->c.r1 ∈ M++[c.r1]++[d] from by (try simp at Oc ⊢);(try grind));have hE:=ag (show ∀x ∈ e++[d],x ∈ M++[c.r1]++[d]\/x=c.r1/\true=true from λx hx=>by have h2:=RI x;simp at hx h2 Oc ⊢;grind);have hB:=ag (show ∀x ∈ M++[c.r1]++[d],0<=x/\x<=1048576 from λx hx=>by have h2:=LP x;(try simp at hx);grind);change Hid _ at MY Qi hp Oc RI LP Qh hcd;go_upto_region 13 with (refine au Tryz.underlying197 ep rfl (λ_=>rfl) ρI ρf ρf rfl (.tmp 33) (.tmp 36) rfl B2 (ζ oj M.length ok) M c.r1 wr #[c.r1] rfl ρr ρr (J4.below ρE) ρB ρa ρJ ?_;intro o5 v5 J5 kx;replace kx:=kx.of_alloc;have Z5:=Z4.ko kx (λy hy=>ae.notown J4 ρa);have X5:=X4.ko kx (ae.notown J4 ρa);have G5:=G4.ko kx (λy hy=>ae.notown J4 ρa);have IN:KO (λ_=>False) w v5:=IC.trans kx σP;have zk5:=IN.size;replace cX:=X5.cell;replace fX:=X5.frozen;replace zX:=X5.size);obtain⟨oj5,Ns,rfl⟩:=ae.slice J5;have zZ5:B2<=v5:=by obtain⟨_,_,_,_,h,_⟩:=Z5;exact h
        obtain⟨M5,XI⟩:=Nq (M++[c.r1]);have hM59:M5.length<=2001:=by rw[<- XI,ZL];simp;omega
        rw[XI] at J5 ⊢;replace XI:=ag XI;go_wp2_with (refine au Tryz.underlying197 ep rfl (λ_=>rfl) ρI ρf ρf rfl (.tmp 42) (.tmp 44) rfl B2 (ζ oj5 M5.length Ns) M5 d v5 #[d] rfl ρr ρr (J5.below ρE) ρB ρa ρJ ?_;intro o6 v6 J6 kx;replace kx:=kx.of_alloc;have Z6:=Z5.ko kx (λy hy=>ae.notown J5 ρa);have X6:=X5.ko kx (ae.notown J5 ρa);have G6:=G5.ko kx (λy hy=>ae.notown J5 ρa);have IQ:KO (λ_=>False) w v6:=IN.trans kx (by intro y hy h;exact ax h (ae.notown J5 ρa));have zk6:=IQ.size;replace cX:=X6.cell;replace fX:=X6.frozen;replace zX:=X6.size);go_roundw;case rel=>exact⟨e++[d],s,(M5++[d]),true,by rw[ZL,hp.out];go_num,rfl,by rw[Qi.out];simp,by rw[<- XI.out];have:=hL.out;(try simp only[ZL,rq,hp.out] at this ⊢);exact this,by rw[<- XI.out];exact hZ.out,by rw[<- XI.out];exact hE.out,by rw[<- XI.out];exact hB.out,ae.below J6 ρE,Z6.below ρE,ρB,G6.below ρE,IQ.step0 ρE⟩
        case measure=>exact ηO
def Ca (t:Int)(R:List CD):Prop:=(∀c ∈ R,kd c.r0 c.r1 c.r2≠0)/\(∀c ∈ R,3<=kd c.r0 c.r1 c.r2->(R.map λc'=>sk c'.r0 c'.r1 c'.r2 c.r1).sum*t<=65536*c.r1)/\(R.map λc=>c.r2).sum*t<=65536
theorem Di {m d n t:Int} (h:0<=m/\0<=d/\0<=n)(h0:0<=t)(h1:t<=1048576):0<=sk m d n t/\sk m d n t<=4503599627370496:=by
 unfold sk;split
 ·omega
 ·rename_i g;have:=gO g;have h2:=xY (m:=m) (d:=d) (n:=n) (t:=t) ρa ρa ρa h0;have:Md*t<=Md*1048576:=ZU h1 ρa;omega
theorem ul {f:CD->Int} {B:Int}:∀{L:List CD},(∀c ∈ L,0<=f c/\f c<=B)->(L.length:Int)*B<=Mc->0<=(L.map f).sum/\(L.map f).sum<=Mc:=by
 have key:∀{L:List CD},(∀c ∈ L,0<=f c/\f c<=B)->0<=(L.map f).sum/\(L.map f).sum<=(L.length:Int)*B:=by
  intro L
  induction L with
  | nil=>intro _;simp
  | cons c r ih=>intro h;have h1:=h c ρp;have h2:=ih (λd hd=>h d (by simp[hd]));simp only[gY,List.sum_cons,mM,Int.natCast_add,Int.add_mul];omega
 intro L h g;exact⟨(key h).1,Int.le_trans (key h).2 g⟩
theorem EK (v:ϗ)(L:List CD)(t:Int)(ht:1<=t/\t<=65536)(Ly:∀c ∈ L,CN c)(N7:∀c ∈ L,kd c.r0 c.r1 c.r2≠0)(w:ϖ)(B:Nat)(G:az 3 fo w B v L)(hl:L.length<=1000):Calls Ψ 68 #[ι ε t,v] w λe w'=>∃a z,e=ϰ (φ #[ι υ a,β z])/\(z=false->Ca t L)/\Below w w w':=by
 obtain⟨oa,oc,rfl,-⟩:=G.slice;refine δi ?_;clear G hl;intro n hn G hl zB;have Lv:L.length<=1000:=ρa;have KD:∀d:Int,0<=d/\d<=1048576->∀c ∈ L,(0<=c.r0/\0<=c.r1/\0<=c.r2)/\0<=sk c.r0 c.r1 c.r2 d/\sk c.r0 c.r1 c.r2 d<=4503599627370496:=λd hd c hc=>⟨(Ly c hc).1,Di (Ly c hc).1 hd.1 hd.2⟩;have MD:∀c ∈ L,(0<=c.r0/\0<=c.r1/\0<=c.r2)/\kd c.r0 c.r1 c.r2≠0/\c.r2<=Md:=λc hc=>⟨(Ly c hc).1,N7 c hc,by have:=gO (N7 c hc);omega⟩;have Wl:∀c ∈ L,(0<=c.r0/\0<=c.r1/\0<=c.r2)/\kd c.r0 c.r1 c.r2≠0:=λc hc=>⟨(Ly c hc).1,N7 c hc⟩;obtain⟨sl,WE⟩:=Nq ((L.map λc=>c.r2).sum);have hslb:0<=sl/\sl<=Mc:=by rw[<- WE];exact ul (λc hc=>⟨(MD c hc).1.2.2,(MD c hc).2.2⟩) ρa
 have hSl:∀u B9 G9,az 3 fo u B9 G9 L->CB 102 #[G9,dI] u (nv sl):=λu B9 G9 h=>by have g:=AE G9 L MD u B9 h ρa;rw[WE] at g;exact g
 change Hid _ at WE hn;go_in;go_wp2_with fail;refine Jc (θ2 (Ks (λ_=>False) w) G) (λv=>ah v w #[Ky,dI] 143) ρB ?_;rintro v1 A1 ⟨F',G1⟩;have Rr:=A1.r;refine(BF _ L t ht Ly v1 B G1 ρa).mono ?_;rintro e v2 ⟨m,rfl,hm,kx⟩;clear Rr;obtain⟨⟨G2,A2,Iz⟩,Rr⟩:=Mx kx (θ3 G1 A1 F');clear kx;obtain rfl:m=0:=vW λh=>by obtain⟨c,hc,h2⟩:=hm.2 h;exact N7 c hc h2
 clear hm;go_wp2_with fail;refine Zc (θ3 Iz G2 A2) ?_;rintro v3 ⟨ID,G3,A3⟩;refine(Da _ L Wl v3 B G3 ρa).mono ?_;rintro e v4 ⟨u,rfl,D,HD,hDl,hDk,hDb,kx⟩;clear Rr;obtain⟨⟨G4,A4,IC⟩,Rr⟩:=Mx kx (θ3 G3 A3 ID);clear kx;have D4:=ae.rd HD (λ_=>rfl);obtain⟨B2,N0⟩:=Nq v4.heap.size;have RD:w<B2:=by rw[<- N0];exact A4.size
 rw[N0] at D4;clear N0 HD;obtain⟨da,dc,rfl,-⟩:=D4.slice;obtain⟨m,hm⟩:=Nq D.length;rw[hm] at D4 hDl ⊢;change Hid _ at hDk hDb;go_wp2_with fail;go_loopw [15] (fun  k wr=>∃(a b:List Int),k=ι ε (a.length:Nat)/\D=a++b/\(∀d ∈ a,(L.map λe=>sk e.r0 e.r1 e.r2 d).sum*t<=65536*d)/\ah wr w #[Ky,dI] 143/\az 3 fo wr B (ζ oa n oc) L/\az 1 BL wr B2 (ζ da m dc) D/\KO (λ_=>False) w wr) (λk _=>m - (intOf k).toNat);case atStart=>exact⟨[],D,rfl,rfl,λd h=>ax h ρp,ρB,G4.below ρE,D4.below ρE,IC.step0 ρE⟩
 case round=>
  obtain⟨a,b,rfl,IF,I3,A0,L0,G0,IB⟩:=hrel;have zw:=IB.size;have IK:a.length+b.length=m:=τY;obtain⟨q,hq⟩:=Nq a.length;rw[hq] at IK ⊢;have Ss:=A0.r;cases b with
  | nil=>
   have IJ:¬(q:Int)<(m:Int):=ρo;have hd:=ZF IJ;have Ke:D=a:=ρN;change Hid _ at IK IF hq Ke I3;obtain⟨z,hz⟩:=Nq (!decide (65536*1<sl*t));have hCr:∀u,CB 100 #[nv sl,ι ε t,ι υ 1] u (β z):=λu=>by have g:=qk sl t 1 u hslb ⟨by omega,by omega⟩ ρa;rw[hz] at g;exact g
   replace hz:=ag hz;go_wp2_with fail;refine Zc (θ3 IB A0 L0) ?_;rintro v1 ⟨F',A1,L1⟩;refine(hSl v1 B _ L1).mono ?_;rintro e v2 ⟨rfl,kx⟩;clear Rr Ss;obtain⟨⟨A2,L2,Iz⟩,Rr⟩:=Mx kx (θ3 A1 L1 F');clear kx;go_wp2_with fail;refine Zc (θ3 Iz A2 L2) ?_;rintro v3 ⟨ID,A3,L3⟩;refine(hCr v3).mono ?_;rintro e v4 ⟨rfl,kx⟩;clear Rr;obtain⟨⟨A4,L4,IC⟩,Rr⟩:=Mx kx (θ3 A3 L3 ID);clear kx;go_wp2_with fail;refine eu v4 (λx=>x=w.heap.size) (λv=>ah v w #[Ky,β (!z)] 143) ρB (λ_ kx=>kx) ?_;rintro v9 R9 k9;have Kd:=R9.cell;refine ZO (v:=φ #[Ky,β (!z)]) (by simp[results,Tryz.results68,go_sem,Kd]) rfl ?_;exact⟨0,!z,rfl,λh=>⟨N7,λc hc g=>I3.out c.r1 (by rw[<- Ke.out];exact hDk.out c hc g),by have h2:=hz.out;rw[WE.out];rw[<- h2] at h;simp at h;omega⟩,IC.toBelow.trans (k9.below IC.size ρC)⟩
  | cons c r=>
   have IJ:(q:Int)<(m:Int):=ρo;have hd:=ZT IJ;have Jm:D[q]?=some c:=ρF;have Ku:c ∈ D:=ρR;have KL:q<m:=ρa;have YD:B2<=wr:=σk;obtain⟨g0,II,rfl,hg,RA⟩:=G0.at Jm;have Na:g0<wr:=ρa;have Vf:=hDb.out c Ku;obtain⟨S,hS⟩:=Nq ((L.map λe=>sk e.r0 e.r1 e.r2 c).sum);have hSb:0<=S/\S<=Mc:=by rw[<- hS];exact ul (B:=4503599627370496) (λd hd=>(KD c Vf d hd).2) ρa
   have hSv:∀u B9 G9,az 3 fo u B9 G9 L->CB 101 #[G9,c] u (nv S):=λu B9 G9 h=>by have g:=vo G9 L c ⟨Vf.1,by omega⟩ (KD c Vf) u B9 h Lv;rw[hS] at g;exact g
   obtain⟨z,hz⟩:=Nq (!decide (65536*c<S*t));have hCr:∀u,CB 100 #[nv S,ι ε t,c] u (β z):=λu=>by have g:=qk S t c u hSb ⟨by omega,by omega⟩ ⟨Vf.1,by omega⟩;rw[hz] at g;exact g
   have b0:wr.cell? ⟨g0,II+q*1,none⟩=some (ι υ c):=RA 0 _ rfl;have bb:wr.cell? ⟨g0,II+q,none⟩=some (ι υ c):=τu;change Hid _ at hz hS IK IF hq Jm I3;go_wp2_with fail;refine Zc (θ4 IB A0 L0 G0) ?_;rintro v1 ⟨F',A1,L1,G1⟩;refine(hSv v1 B _ L1).mono ?_;rintro e v2 ⟨rfl,kx⟩;clear Rr Ss;obtain⟨⟨A2,L2,G2,Iz⟩,Rr⟩:=Mx kx (θ4 A1 L1 G1 F');clear kx;go_wp2_with fail;refine Zc (θ4 Iz A2 L2 G2) ?_;rintro v3 ⟨ID,A3,L3,G3⟩;refine(hCr v3).mono ?_;rintro e v4 ⟨rfl,kx⟩;clear Rr;obtain⟨⟨A4,L4,G4,IC⟩,Rr⟩:=Mx kx (θ4 A3 L3 G3 ID);clear kx;cases z
   ·go_wp2_with fail;refine eu v4 (λx=>x=w.heap.size) (λv=>ah v w #[c,fJ] 143) ρB (λ_ kx=>kx) ?_;rintro v9 R9 k9;have Kd:=R9.cell;refine ZO (v:=φ #[c,fJ]) (by simp[results,Tryz.results68,go_sem,Kd]) rfl ?_;exact⟨c,true,rfl,λh=>ax h ρf,IC.toBelow.trans (k9.below IC.size ρC)⟩
   ·go_wp2;go_roundw;case rel=>exact⟨a++[c],r,by rw[ZL,hq.out];go_num,by rw[IF.out];simp,λy hy=>(ZM.1 hy).elim (I3.out y) (λh=>by rw[ZS.1 h,hS.out];have h2:=hz.out;simp at h2;omega),ρB,L4.below ρE,G4.below ρE,IC.step0 ρE⟩
    case measure=>exact ξc
theorem EJ (v:ϗ)(L:List CD)(t:Int)(ht:1<=t/\t<=65536)(Ly:∀c ∈ L,CN c)(w:ϖ)(B:Nat)(G:az 3 fo w B v L)(hl:L.length<=1000):Calls Ψ 46 #[ι ε t,v] w λe w'=>∃m,e=ϰ (ι ε m)/\(m=0->Ca t L)/\Below w w w':=by
 obtain⟨oa,oc,rfl,-⟩:=G.slice;refine δi ?_;clear G hl;intro n hn G hl zB;go_in;go_wp2_with fail;refine Zc (θ2 (Ks (λ_=>False) w) G) ?_;rintro v1 ⟨F',G1⟩;refine(BF _ L t ht Ly v1 B G1 ρa).mono ?_;rintro e v2 ⟨m,rfl,hm,kx⟩;obtain⟨G2,Iz⟩:=Mw kx (θ2 G1 F');clear kx;by_cases cm:m=0
 rotate_left
 ·have dm:(m !=0)=true:=by simpa using cm
  go_wp2;go_ret;exact⟨m,rfl,λh=>ax h cm,Iz.toBelow.trans ρE⟩
 subst cm;have N7:=hm.1 rfl;clear hm;go_wp2_with fail;refine Zc (θ2 Iz G2) ?_;rintro v3 ⟨ID,G3⟩;refine(EK _ L t ht Ly N7 v3 B G3 ρa).mono ?_;rintro e v4 ⟨a,z,rfl,hz,kx⟩;obtain⟨G4,IC⟩:=Mw kx (θ2 G3 ID);clear kx;have hF:∀b v,(Instr.field 143 (φ #[a,β b]) 1).run Ψ v=.ok (β b) v:=λb v=>by kernel_rfl
 cases z
 ·replace hz:=ag (hz rfl);go_wp2;go_ret;exact⟨0,rfl,λ_=>hz.out,IC.toBelow.trans ρE⟩
 ·clear hz;go_wp2;go_ret;exact⟨22,rfl,λh=>ax h ρf,IC.toBelow.trans ρE⟩
end Go.Proofs.YtfdlemkplejdnaaGreat
