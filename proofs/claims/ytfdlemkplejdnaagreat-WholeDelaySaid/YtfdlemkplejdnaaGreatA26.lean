/- WholeDelay, part 26. Conditions: none. -/
import Derived.Test.YtfdlemkplejdnaaGreatA18
import Derived.Test.YtfdlemkplejdnaaGreatA23
namespace Go.Proofs.YtfdlemkplejdnaaGreat
open Go.RowKit Go.Sort
open Value renaming int->ι,pointer->ψ,slice->ζ,tuple->χ,agg->φ,map->μ,bool->β
open IntKind renaming u64->υ,i64->ε,u16->ω
open Ending renaming returned->ϰ
open Go.Proofs.Tryz renaming prog->Ψ,underlying3->Θ,underlying147->Δ,underlying152->Γ,underlying202->Φ,underlying39->Ξ,underlying207->Ω
open Go renaming World->ϖ,Value->ϗ
set_option linter.unusedVariables false
set_option linter.unusedSimpArgs false
set_option maxHeartbeats 8000000
set_option maxRecDepth 100000
abbrev CO (x:Int):List ϗ:=[ι υ x]
theorem af.us {w:ϖ} {base:Nat} {v:ϗ} {l:List Int} (h:af 39 1 CO w base v l)(hb:∀x ∈ l,0<=x/\x<=1048576):(v=Kn/\l=[])\/∃g JN,v=uf g l.length JN/\base<=g/\US w g l.length:=by
 obtain⟨h1,⟨rfl,h2⟩|⟨g,JN,cur,rfl,h2,h3,h4,h5,h6,h7⟩⟩:=h
 ·exact .inl ⟨rfl,List.length_eq_zero_iff.1 h2⟩
 ·refine .inr ⟨g,JN,rfl,h2,λi=>(l[i]?).getD 0,λi=>?_,cur,h3,by omega,λi hi=>?_⟩
  ·show 0<=(l[i]?).getD 0/\(l[i]?).getD 0<=1048576;cases e:l[i]? with
   | none=>simp
   | some x=>exact hb x (List.mem_of_getElem? e)
  ·have e:cur[i]?=(cur.toList.take (l.length*1))[i]?:=by rw[List.getElem?_take,ZP ρa,Array.getElem?_toList]
   rw[e,h7];have e2:∀(l:List Int) (i:Nat),(l.flatMap CO)[i]?=(l[i]?).map (Value.int .u64):=by
    intro l
    induction l with
    | nil=>intro i;rfl
    | cons a r ih=>intro i;cases i with
     | zero=>rfl
     | succ i=>exact ih i
   rw[e2,List.getElem?_eq_getElem hi];simp[hi]
theorem Cg (w:ϖ):CB 278 #[Kn,Kz,Kz] w (χ #[]):=by
 unfold CB;go_in;go_wp2_with fail;go_loopw [6] (λt wr=>t=Ko/\Below w w wr) (λ_ _=>0);case atStart=>exact⟨rfl,ρE⟩
 case round=>
  obtain⟨rfl,k⟩:=hrel;go_wp2_with fail;(first|go_end0|((try simp only[Exit.inBlock,Exit.then]);refine ZO (results_none rfl _ _ _) rfl ?_));exact⟨rfl,k.trans ρE⟩
theorem Ch (k:Nat)(w:ϖ):CB 265 #[Kn,Kz,Kz,ι ε k] w (χ #[]):=by
 unfold CB;go_in;go_wp2_with fail;go_loopw [1,2] (λt u wr=>t=Kz/\u=Kz/\Below w w wr) (λ_ _ _=>0);case atStart=>exact⟨rfl,rfl,ρE⟩
 case round=>
  obtain⟨rfl,rfl,k⟩:=hrel;go_wp2_with fail;refine(Cg wr).mono ?_;rintro e v ⟨rfl,k2⟩;go_wp2_with fail;(first|go_end0|((try simp only[Exit.inBlock,Exit.then]);refine ZO (results_none rfl _ _ _) rfl ?_));exact⟨rfl,(k.trans (k2.mono k.size)).trans ρE⟩
theorem Ab (w:ϖ):CB 233 #[Kn] w (χ #[]):=by have h0:IntKind.u64.wrap 0=0:=ZZ _ ⟨by omega,by omega⟩;unfold CB;go_in;go_wp2_with (first|(go_at_call 148;refine(Gs 0 _ ρa).mono ?_;rintro e u ⟨k,rfl,hk,rfl⟩)|(go_at_call 265;refine(Ch k _).mono ?_;rintro e v ⟨rfl,kx⟩));(first|go_end0|((try simp only[Exit.inBlock,Exit.then]);refine ZO (results_none rfl _ _ _) rfl ?_));exact⟨rfl,Below.trans ρE (kx.mono ρp)⟩
theorem Gy (g N n JN:Nat)  (w:ϖ)(U:US w g N)(hn:n<=N/\n<=49):Calls Ψ 233 #[uf g n JN] w λe w'=>e=ϰ (χ #[])/\US w' g N/\KO (λx=>x=g) w w':=by
 have h0:IntKind.u64.wrap (n:Int)=n:=ZZ _ ⟨by omega,by omega⟩;go_in;go_wp2_with (first|(go_at_call 148;refine(Gs n _ ρa).mono ?_;rintro e u ⟨k,rfl,hk,rfl⟩)|(go_at_call 265;refine(IF g N n JN hn (n+1) 0 n k _ (US.below U ρE) ρa ρa ρa ρa).mono ?_;rintro e v ⟨rfl,U2,kx⟩));(first|go_end0|((try simp only[Exit.inBlock,Exit.then]);refine ZO (results_none rfl _ _ _) rfl ?_));exact⟨rfl,U2.below ρE,(KO.of_below ρE).trans kx (λ_ _ e=>e) |>.step0 ρE⟩
theorem kG {w:ϖ} (g:Nat):∀(vs:List ϗ)(o:Nat)(v:ϖ),KO (λx=>x=g) w v->KO (λx=>x=g) w (v.setCells g o vs)
 | [],_,_,h=>h
 | u::r,o,v,h=>kG g r (o+1) _ (KO.setCell h (λ_=>rfl) _)
theorem zV (g N n JN:Nat)  (w:ϖ)(U:US w g N)(hn:n<=N/\n<=49)(Kv:n<=JN/\JN<=maxLen):Calls Ψ 234 #[uf g n JN] w λe w'=>∃m:Nat,e=ϰ (ζ g m JN)/\m<=n/\US w' g N/\KO (λx=>x=g) w w':=by
 by_cases c0:n<2
 ·have d0:=dt ((n:Int)<2);have d0':=ZT c0;go_in;go_wp2;go_ret;exact⟨n,rfl,ZR _,U.below ρE,KO.of_below ρE⟩
 have d0:=df ((n:Int)<2);have d0':=ZF c0;go_in;go_wp2_with fail;go_loopw [3] (λt wr=>∃k:Nat,t=ι ε k/\(1<=k/\k<=n)/\US wr g N/\KO (λx=>x=g) w wr) (λt _=>n - (intOf t).toNat);case atStart=>exact⟨1,rfl,by omega,U,KO.refl _ _⟩
 case round=>
  obtain⟨k,rfl,hk,⟨f,U0⟩,JG⟩:=hrel;by_cases c1:k<n
  rotate_left
  ·have d1:=ZF c1;go_wp2;go_ret;exact⟨n,rfl,ZR _,U0.us.below ρE,JG.step0 ρE⟩
  have d1:=ZT c1;obtain⟨q,hq⟩:∃q:Nat,(k:Int) - 1=q:=⟨k - 1,by omega⟩;have J2:=(U0.cell (i:=k) ρa);have Ku:=(U0.cell (i:=q) ρa);have Kx:=U0.size;go_wp2_with fail;refine Zw (θ2 JG U0) ?_;rintro v1 ⟨I',U1⟩;replace J2:=(U1.cell (i:=k) ρa);replace Ku:=(U1.cell (i:=q) ρa);replace Kx:=U1.size;have KL:=λd os=>((U1.below (ZW _ d os)).cell (i:=k) ρa);have MA:=λd os=>((U1.below (ZW _ d os)).cell (i:=q) ρa);refine δk ?_;intro Mh
  repeat (go_big_quiet_step ((first
    | (go_at_call 226;(with_reducible exact an (bU _ _ _))))))
  refine Zq (θ2 U1 I') ?_;rintro v2 ⟨U2,JE⟩;replace J2:=(U2.cell (i:=k) ρa);replace Ku:=(U2.cell (i:=q) ρa);replace Kx:=U2.size;clear KL MA Mh U1;by_cases c2:f k=f q
  rotate_left
  ·have d2:=ZF c2;have VQ:(f k==f q)=false:=ZN.2 c2;go_wp2;go_roundw;case rel=>exact⟨k+1,by first|rfl|(congr 1;omega)|go_num,by omega,U2.us.below ρE,JE.step0 ρE⟩
   case measure=>exact ξe
  have d2:=ZT c2;have VQ:(f k==f q)=true:=by rw[c2];exact beq_self_eq_true _
  obtain⟨r,hr⟩:∃r:Nat,n - k=r:=⟨_,rfl⟩;go_wp2_with fail;have US2:=U2.us;clear U2 J2 Ku Kx c2 d2 VQ;go_loopw [3,5] (λt u wr=>∃(i j:Nat),t=ι ε i/\u=ι ε j/\(k<=i/\i+1<=k+j)/\(1<=j/\j<=r)/\US wr g N/\KO (λx=>x=g) w wr) (λt u _=>r - (intOf u).toNat);case atStart=>exact⟨k,1,rfl,rfl,by omega,by omega,US2,JE⟩
  case round=>
   clear US2 JE JG;obtain⟨i,j,rfl,rfl,hi,hj,⟨f3,U0⟩,JG⟩:=hrel;by_cases c3:j<r
   rotate_left
   ·have d3:=ZF c3;obtain⟨m,hm⟩:∃m:Nat,n - i=m:=⟨_,rfl⟩;obtain⟨c,hc⟩:∃c:Nat,JN - i=c:=⟨_,rfl⟩;go_upto_region 14 with fail;refine Zw (θ2 JG U0) ?_;rintro v5 ⟨JP,U5⟩;have Ue:=Go.Lib.run_clear_slice (P:=Ψ) v5 197 39 0 Ky Tryz.underlying197 (λw=>Tryz.zeroValue39 w) rfl rfl g i m c ρa (λj hj=>by rw[U5.cell ρa];rfl) (λj hj=>U5.frozen _);go_wp2;go_ret;exact⟨i,rfl,by omega,U5.us.setCells ρa m i,kG g _ _ _ JP⟩
   have d3:=ZT c3;obtain⟨p,hp⟩:∃p:Nat,(j:Int) - 1=p:=⟨j - 1,by omega⟩;have J2:=(U0.cell (i:=k+j) ρa);have Ku:=(U0.cell (i:=k+p) ρa);have Kx:=U0.size;go_wp2_with fail;refine Zw (θ2 JG U0) ?_;rintro v1 ⟨I',U1⟩;replace J2:=(U1.cell (i:=k+j) ρa);replace Ku:=(U1.cell (i:=k+p) ρa);replace Kx:=U1.size;have KL:=λd os=>((U1.below (ZW _ d os)).cell (i:=k+j) ρa);have MA:=λd os=>((U1.below (ZW _ d os)).cell (i:=k+p) ρa);refine δk ?_;intro Mh
   repeat (go_big_quiet_step ((first
     | (go_at_call 226;(with_reducible exact an (bU _ _ _))))))
   refine Zq (θ2 U1 I') ?_;rintro v2 ⟨U2,JE⟩;replace J2:=(U2.cell (i:=k+j) ρa);replace Ku:=(U2.cell (i:=k+p) ρa);replace Kx:=U2.size;clear KL MA Mh U1;by_cases c4:f3 (k+j)=f3 (k+p)
   ·have d4:(f3 (k+j)==f3 (k+p))=true:=by rw[c4];exact beq_self_eq_true _
    have d4':(f3 (k+j) !=f3 (k+p))=false:=by unfold bne;rw[d4];rfl
    go_wp2;go_roundw;case rel=>exact⟨i,j+1,rfl,by first|rfl|(congr 1;omega)|go_num,by omega,by omega,U2.us.below ρE,JE.step0 ρE⟩
    case measure=>exact ξe
   have d4:(f3 (k+j)==f3 (k+p))=false:=ZN.2 c4;have d4':(f3 (k+j) !=f3 (k+p))=true:=by unfold bne;rw[d4];rfl
   have lU3:=U2.cell (i:=i) ρa;have fU3:=U2.frozen i;go_wp2;go_roundw;case rel=>exact⟨i+1,j+1,by first|rfl|(congr 1;omega)|go_num,by first|rfl|(congr 1;omega)|go_num,by omega,by omega,τD,JE.trans (G:=λx=>x=g) ρK (λ_ _ e=>e)⟩
   case measure=>exact ξe
theorem rN (w:ϖ):CB 234 #[Kn] w Kn:=by unfold CB;go_in;exact ηP
theorem ei:(Ψ.info? 39).map (λi=>(i.zero,i.size,i.bytes))=some (some (ι υ 0),1,8):=by kernel_rfl
theorem EL (v:ϗ)(l:List CD)(w:ϖ)(B:Nat)(G:aS 3 fu w B v l)(hl:l.length<=49)(hc:∀c ∈ l,cV c.r0 c.r1 c.r2):Calls Ψ 183 #[v] w λe w'=>∃u,e=ϰ u/\Below w w w'/\(u=Kn\/∃g m JN,u=ζ (some ⟨g,0,none⟩) m JN/\m<=49/\m<=JN/\US w' g m/\l≠[]):=by
 obtain⟨oa,oc,rfl,-⟩:=G.slice;obtain⟨n,hn⟩:=Nq l.length;rw[hn] at G hl ⊢;have zB:B<=w:=ρv;go_in;go_wp2_with fail;go_loopw [3,9] (λo k wr=>∃(a b:List CD) (os:List Int),k=ι ε (a.length:Nat)/\l=a++b/\os.length<=a.length/\(a=[]->o=Kn)/\(∀x ∈ os,0<=x/\x<=1048576)/\af 39 1 CO wr w o os/\aS 3 fu wr B (ζ oa n oc) l/\Below w w wr) (λ_ k _=>n - (intOf k).toNat);case atStart=>exact⟨[],l,[],rfl,rfl,ZR _,λ_=>rfl,λx hx=>by simp at hx,af.nil _ _,G.below ρE,ρE⟩
 case round=>
  obtain⟨a,b,os,rfl,JK,Xl,MT,To,H0,G0,JG⟩:=hrel;refine δa ?_;intro zw JO q hq;rw[hq] at JO Xl ⊢;have LU:q<=n:=ρa;have Yt:∀c ∈ b,cV c.r0 c.r1 c.r2:=λc Le=>hc c (by rw[JK];simp[Le]);obtain⟨ob,oe,rfl⟩:=af.slice H0;cases b with
  | nil=>
   refine η4 ?_;intro JM hd;rcases H0.us To with ⟨e1,e2⟩|⟨g,JN,e1,hg,U0⟩
   ·obtain⟨rfl,h0,rfl⟩:=ZV e1;rw[e2];change Hid _ at JO JK;clear e1 h0 MT Yt;go_wp2_with fail;refine(Ab wr).mono ?_;rintro e v1 ⟨rfl,k1⟩;go_wp2_with fail;refine(rN v1).mono ?_;rintro e v2 ⟨rfl,k2⟩;go_wp2;go_ret;exact⟨_,rfl,((JG.trans (k1.mono zw)).trans (k2.mono (ZK zw k1.size))).trans ρE,.inl rfl⟩
   ·obtain⟨rfl,h0,rfl⟩:=ZV e1;obtain⟨m,hm⟩:=Nq os.length;rw[hm] at Xl U0 H0 ⊢;have hcp:m<=oe/\oe<=maxLen:=by obtain⟨_,hh⟩:=H0;rcases hh with ⟨h,_⟩|⟨g',Ps,cur,hv,_,_,hc,Yu,_⟩;exact az (ZV h).1 ρp;obtain⟨_,_,rfl⟩:=ZV hv;rw[<- hm];exact⟨hc,Yu⟩
    have NH:l≠[]:=λe=>by rw[ZA] at JK;have h9:=MT (JK.symm.trans e);exact az (ZV h9).1 ρp
    clear e1 h0 MT Yt;change Hid _ at JO JK hq hm hn;go_wp2_with fail;refine(Gy g m m oe wr U0 ⟨ZR _,by omega⟩).mono ?_;rintro e v1 ⟨rfl,U1,k1⟩;go_wp2_with fail;refine(zV g m m oe v1 U1 ⟨ZR _,by omega⟩ hcp).mono ?_;rintro e v2 ⟨m2,rfl,Xg,U2,k2⟩;go_wp2;go_ret;refine⟨_,rfl,(JG.trans ((k1.trans k2 (λ_ _ e=>e)).below ρa ρF)).trans ρE,.inr ⟨g,m2,oe,rfl,by omega,by omega,?_,NH⟩⟩
    ·obtain⟨f,h1,cs,h2,h3,h4⟩:=U2;exact US.below ⟨f,h1,cs,h2,by omega,λi hi=>h4 i ρa⟩ ρE
  | cons c r=>
   refine η5 ?_;intro JM hd;have Kd:l[q]?=some c:=ρC;have Nn:=Yt c ρp;obtain⟨hkd,Ns,Wc,NX⟩:=Nn;obtain⟨g,off,rfl,hg,RA⟩:=G0.at Kd;obtain⟨kv,LQ⟩:=Nq (kd c.r0 c.r1 c.r2);clear MT Yt hkd;change Hid _ at JO hq JK Kd hn;replace JG:=KO.of_below (F:=λ_=>False) JG;have Oc:g<wr:=ρa;go_upto_region 4 with (fail);go_wp2_with (refine Go.wpList_load_mid rfl 41 _ rfl g (off+q*3) rfl (fu c) _ RA Tryz.underlying41 rfl ρh ?_;try simp only[fu]);refine Jc (θ3 JG H0 G0) (λv=>ah v wr (aJ c.r0 c.r1 c.r2) 41) ρB ?_;rintro v1 X1 ⟨I',H1,G1⟩;replace cX:=X1.cell;replace fX:=X1.frozen;replace zX:=X1.size;refine(bQ c.r0 c.r1 c.r2 kv v1 Ns.1 Wc.1 NX.1 LQ).mono ?_;rintro e v2 ⟨rfl,kx⟩;obtain⟨H2,G2,X2,JE⟩:=Mw kx (θ4 H1 G1 X1 I');replace cX:=X2.cell;replace fX:=X2.frozen;replace zX:=X2.size;clear kx;by_cases c3:kv=3
   ·have e3:(kv==3)=true:=by rw[c3];rfl
    exact ξP
   by_cases c4:kv=4
   ·have e3:(kv==3)=false:=by rw[c4];rfl
    have e4:(kv==4)=true:=by rw[c4];rfl
    exact ξP
   have e3:(kv==3)=false:=ZN.2 c3;have e4:(kv==4)=false:=ZN.2 c4;go_wp2;go_roundw;case rel=>exact⟨a++[c],r,os,by rw[ZL,hq.out];go_num,by rw[JK.out];simp,by simp;rw[hq.out];omega,λe=>az e ρp,To,H2.below ρE,G2.below ρE,(JE.step0 ρE).toBelow⟩
   case measure=>exact ξc
theorem CP (v:ϗ)(l:List CD)(S:CD->Int)(g:Nat)(lb:Array ϗ)(w:ϖ)(B:Nat)(G:aS 3 fu w B v l)(hl:l.length<=49)(hc:∀c ∈ l,cV c.r0 c.r1 c.r2/\(0<=S c/\S c<=4503599627370496))(eg:∀args w,(callFunc g args).run Ψ w=.ok (.enter g args) w)
  (hp:∀c ∈ l,∀v,Below w w v->Calls Ψ g (#[φ (aJ c.r0 c.r1 c.r2)]++lb) v λe v'=>e=ϰ (wv (S c))/\Below v v v'):Calls Ψ 237 #[v,.func (.func g) #[] lb] w λe w'=>∃s:Int,e=ϰ (wv s)/\(0<=s/\s<=l.length*4503599627370496)/\Below w w w':=by
 obtain⟨oa,oc,rfl,-⟩:=G.slice;obtain⟨n,hn⟩:=Nq l.length;rw[hn] at G hl ⊢;have zB:B<=w:=ρv;go_in;go_wp2_with fail;go_loopw [10] (λk wr=>∃(a b:List CD) (s:Int),k=ι ε (a.length:Nat)/\l=a++b/\(0<=s/\s<=a.length*4503599627370496)/\ah wr (w+1) #[(hi (s)),(lo (s))] 232/\ah wr w #[Ky,Ky] 232/\aS 3 fu wr B (ζ oa n oc) l/\Below w w wr) (λk _=>n - (intOf k).toNat);case atStart=>exact⟨[],l,0,rfl,rfl,by simp,(by have h0:hi 0=0:=rfl;have l0:lo 0=0:=rfl;rw[h0,l0];(repeat' (first|(with_reducible (first|assumption|exact ah.alloc_new _ _ _ ρ3|apply ah.drewN|apply ah.drew|apply ah.alloc_old|apply ah.set_same|apply ah.set_other))|(show (_:Nat)≠_;first|omega|(simp;done)|(simp;omega))|((simp only[List.setIfInBounds_toArray,List.set_cons_succ,List.set_cons_zero]);(with_reducible exact rfl))|(with_reducible exact rfl)|(show (_:Array ϗ)=_;exact rfl)))),ρB,G.below ρE,ρE⟩
 case round=>
  obtain⟨a,b,s,rfl,JK,hs,O0,R0,G0,JG⟩:=hrel;refine δa ?_;intro zw JO q hq;rw[hq] at JO hs ⊢;have LU:q<=n:=ρa;have Yt:∀c ∈ b,cV c.r0 c.r1 c.r2/\(0<=S c/\S c<=4503599627370496):=λc Le=>hc c (by rw[JK];simp[Le]);have VE:ai s:=ρz;have zO:=O0.size;have zR:=R0.size;cases b with
  | nil=>refine η4 ?_;intro JM hd;change Hid _ at JO JK;clear Yt;have cO:=O0.cell;have fO:=O0.frozen;have cR:=R0.cell;have fR:=R0.frozen;go_wp2_with fail;refine eD wr (λx=>x=w.heap.size) (λv=>ah v w #[(hi (s)),(lo (s))] 232) ρB (λ_ kx=>kx) ?_;rintro v1 R1 k1;have cR1:=R1.cell;refine ZO (v:=wv s) (by simp[results,Tryz.results237,go_sem,cR1]) rfl ?_;exact⟨s,rfl,⟨by omega,by omega⟩,JG.trans (k1.below zw ρF)⟩
  | cons c r=>
   refine η5 ?_;intro JM hd;have Kd:l[q]?=some c:=ρC;have Le:c ∈ l:=ρP;obtain⟨⟨hkd,Ns,Wc,NX⟩,hS⟩:=Yt c ρp;have MG:(kd c.r0 c.r1 c.r2 !=0)=true:=by simpa using hkd
   obtain⟨g0,off,rfl,hg,RA⟩:=G0.at Kd;obtain⟨s2,Ki⟩:=Nq (s+S c);have QK:ai s2:=ρz;have UG:ai (S c):=ρz;have MI:0<=s2/\s2<=(q+1)*4503599627370496:=ρa;clear Yt hkd;change Hid _ at JO hq JK Kd hn Ki;have k0B:=JG;replace JG:=KO.of_below (F:=λ_=>False) JG;have Oc:g0<wr:=ρa;have nXO:wr.heap.size≠w+1:=ρa;go_upto_region 4 with (fail);go_wp2_with (refine Go.wpList_load_mid rfl 41 _ rfl g0 (off+q*3) rfl (fu c) _ RA Tryz.underlying41 rfl ρh ?_;try simp only[fu]);refine Jc (θ4 JG O0 R0 G0) (λv=>ah v wr (aJ c.r0 c.r1 c.r2) 41) ρB ?_;rintro v1 X1 ⟨I',O1,R1,G1⟩;replace cO:=O1.cell;replace fO:=O1.frozen;replace zO:=O1.size;replace cR:=R1.cell;replace fR:=R1.frozen;replace zR:=R1.size;have Rr:=X1.r;refine(jq c.r0 c.r1 c.r2 v1 ⟨Ns.1,Wc.1,NX.1⟩ true MG).mono ?_;rintro e v2 ⟨rfl,kx⟩;obtain⟨O2,R2,G2,X2,JE⟩:=Mw kx (θ5 O1 R1 G1 X1 I');replace cO:=O2.cell;replace fO:=O2.frozen;replace zO:=O2.size;replace cR:=R2.cell;replace fR:=R2.frozen;replace zR:=R2.size;replace Rr:=X2.r;clear kx;go_upto_region 6 with (fail);refine Zw (θ5 JE O2 R2 G2 X2) ?_;rintro v3 ⟨JI,O3,R3,G3,X3⟩;replace cO:=O3.cell;replace fO:=O3.frozen;replace zO:=O3.size;replace cR:=R3.cell;replace fR:=R3.frozen;replace zR:=R3.size;replace Rr:=X3.r;go_region_with (first|(go_at_fn g;refine(hp c Le _ ((JI.step0 ρE).toBelow)).mono ?_;rintro e v4 ⟨rfl,kx⟩;have kk4:Below v3 v3 v4:=Below.trans ρE (kx.mono ρp);have O4:=O3.below kk4 O3.size;have X4:=X3.below kk4 X3.size;have R4:=R3.below kk4 R3.size;have G4:=G3.below kk4;have JJ:=JI.step0 kk4;have rO4:=O4.r;have cX4:=X4.cell;have zX4:=X4.size)|(go_at_call 249;refine(Ae s (S c) s2 _ VE UG Ki.out QK).mono ?_;rintro e v5 ⟨rfl,kx⟩;have kk5:Below v4 v4 v5:=Below.trans ρE (kx.mono ρp);have O5:=O4.below kk5 O4.size;have X5:=X4.below kk5 X4.size;have R5:=R4.below kk5 R4.size;have G5:=G4.below kk5;have JP:=JJ.step0 kk5;have rO5:=O5.r;have cX5:=X5.cell;have zX5:=X5.size))
   all_goals
    go_wp2;go_roundw;case rel=>exact⟨a++[c],r,s2,by rw[ZL,hq.out];go_num,by rw[JK.out];simp,by rw[ZL,hq.out];exact⟨MI.1,Int.le_trans MI.2 ρp⟩,ρB,ρB,G5.ko (F:=λx=>x=w.heap.size+1) ρK σL,JP.toBelow.trans ρE⟩
    case measure=>exact ξc
theorem EQ (c:CD)(t:Int)(T:Nat)(w:ϖ)(hc:cV c.r0 c.r1 c.r2)(ht:aq t)(HT:ah w T #[t] 39):
  CB 238 #[φ (aJ c.r0 c.r1 c.r2),T] w (wv (sk c.r0 c.r1 c.r2 t)):=by
 have JG:=KO.refl (λ_=>False) w;have T0:=HT;have nT:T≠w+1:=by have:=HT.size;omega
 have Rr:=T0.r;unfold CB;go_in;go_wp2_with fail;refine pw (θ2 JG T0) (λv=>ah v (w+1) #[Ky,Ky] 232) ρB ?_;clear Rr;rintro v1 R1 ⟨I',T1⟩ Rr;replace rR:=R1.r;refine(rm c.r0 c.r1 c.r2 t (sk c.r0 c.r1 c.r2 t) v1 hc.2.1.1 hc.2.2.1.1 hc.2.2.2.1 ht rfl).mono ?_;rintro e v2 ⟨rfl,kx⟩;clear Rr;obtain⟨⟨T2,R2,JE⟩,Rr⟩:=Mx kx (θ3 T1 R1 I');replace rR:=R2.r;clear kx;go_wp2_with fail;refine eD v2 (λx=>x=w.heap.size+1) (λv=>ah v (T) #[t] 39/\ah v (w+1) (mG (sk c.r0 c.r1 c.r2 t)) 232) ⟨ρB,ρB⟩ (λ_ kx=>(JE.trans kx ρc)) ?_;rintro v3 ⟨T3,R3⟩ JI;replace rR:=R3.r;replace Rr:=T3.r;refine ZO (v:=wv (sk c.r0 c.r1 c.r2 t)) (by simp[results,Tryz.results238,go_sem,rR.1]) rfl ?_;exact⟨rfl,JI.toBelow⟩
theorem Ci (c:CD)(w:ϖ)(hc:cV c.r0 c.r1 c.r2):
  CB 240 #[φ (aJ c.r0 c.r1 c.r2)] w (wv c.r2):=by
 have JG:=KO.refl (λ_=>False) w;unfold CB;go_in;go_wp2_with fail;refine Jc JG (λv=>ah v (w+1) #[Ky,Ky] 232) ρB ?_;rintro v1 R1 I';replace rR:=R1.r;refine(I7 c.r2 v1 hc.2.2.2.1 (by have:=hc.2.2.2;omega)).mono ?_;rintro e v2 ⟨rfl,kx⟩;obtain⟨R2,JE⟩:=Mw kx (θ2 R1 I');replace rR:=R2.r;clear kx;go_wp2_with fail;refine eD v2 (λx=>x=w.heap.size+1) (λv=>ah v (w+1) (mG c.r2) 232) ρB (λ_ kx=>(JE.trans kx ρc)) ?_;rintro v3 R3 JI;replace rR:=R3.r;refine ZO (v:=wv c.r2) (by simp[results,Tryz.results240,go_sem,rR.1]) rfl ?_;exact⟨rfl,JI.toBelow⟩
theorem JC {m d n t:Int} (hc:cV m d n)(ht:kM t):0<=sk m d n t/\sk m d n t<=4503599627370496:=by have h:=yZ (m:=m) (d:=d) (n:=n) (t:=t) hc.2.1.1 hc.2.2.1.1 hc.2.2.2.1 ht.1;omega
theorem Gx (sl:ϗ)(l:List CD)(t:Int)(ht:kM t)(w:ϖ)(B:Nat)(G:aS 3 fu w B sl l)(hl:l.length<=49)(hc:∀c ∈ l,cV c.r0 c.r1 c.r2):Calls Ψ 187 #[sl,t] w λe w'=>∃s:Int,e=ϰ (wv s)/\(0<=s/\s<=l.length*4503599627370496)/\Below w w w':=by
 have zB:B<=w:=ρv;obtain⟨oa,oc,rfl,Uj⟩:=G.slice;obtain⟨n,hn⟩:=Nq l.length;rw[hn] at G ⊢;replace hn:=ag hn;obtain⟨sl,hv⟩:=Nq (Value.slice oa n oc);rw[hv] at G ⊢;have JG:=KO.refl (λ_=>False) w;have G0:=G;go_in;go_wp2_with fail;refine Jc (θ2 JG G0) (λv=>ah v w #[t] 39/\ah v (w+1) #[Ky,Ky] 232) ⟨ρB,ρB⟩ ?_;rintro v1 ⟨X1,R1⟩ ⟨I',G1⟩;replace rR:=R1.r;have Rr:=X1.r;refine(CP sl l (λc=>sk c.r0 c.r1 c.r2 t) 238 #[w] v1 B G1 hl (λc Le=>⟨hc c Le,JC (hc c Le) ht⟩) (enters_of Tryz.func238 ρh rfl) (λc Le u hu=>EQ c t w u (hc c Le) ρa (X1.below hu X1.size))).mono ?_;rintro e v2 ⟨s,rfl,hs,kx⟩;clear Rr;obtain⟨⟨G2,X2,R2,JE⟩,Rr⟩:=Mx kx (θ4 G1 X1 R1 I');replace rR:=R2.r;clear kx;go_wp2_with fail;refine eD v2 (λx=>x=w.heap.size+1) (λv=>ah v w #[t] 39/\ah v (w+1) (mG s) 232) ⟨ρB,ρB⟩ (λ_ kx=>θ2 (JE.trans kx ρc) (G2.ko kx (λy hy=>by omega))) ?_;rintro v3 ⟨X3,R3⟩ ⟨JI,G3⟩;replace rR:=R3.r;replace Rr:=X3.r;refine ZO (v:=wv s) (by simp[results,Tryz.results187,go_sem,rR.1]) rfl ?_;exact⟨s,rfl,by rw[<- hn.out];exact hs,JI.toBelow⟩
theorem ER (sl:ϗ)(l:List CD)(w:ϖ)(B:Nat)(G:aS 3 fu w B sl l)(hl:l.length<=49)(hc:∀c ∈ l,cV c.r0 c.r1 c.r2):Calls Ψ 188 #[sl] w λe w'=>∃s:Int,e=ϰ (wv s)/\(0<=s/\s<=l.length*4503599627370496)/\Below w w w':=by
 have zB:B<=w:=ρv;obtain⟨oa,oc,rfl,Uj⟩:=G.slice;obtain⟨n,hn⟩:=Nq l.length;rw[hn] at G ⊢;replace hn:=ag hn;obtain⟨sl,hv⟩:=Nq (Value.slice oa n oc);rw[hv] at G ⊢;have JG:=KO.refl (λ_=>False) w;have G0:=G;go_in;go_wp2_with fail;refine Jc (θ2 JG G0) (λv=>ah v w #[Ky,Ky] 232) ρB ?_;rintro v1 R1 ⟨I',G1⟩;replace rR:=R1.r;refine(CP sl l (λc=>c.r2) 240 #[] v1 B G1 hl (λc Le=>⟨hc c Le,by have:=(hc c Le).2.2.2;omega⟩) (enters_of Tryz.func240 ρh rfl) (λc Le u hu=>Ci c u (hc c Le))).mono ?_;rintro e v2 ⟨s,rfl,hs,kx⟩;obtain⟨G2,R2,JE⟩:=Mw kx (θ3 G1 R1 I');replace rR:=R2.r;clear kx;go_wp2_with fail;refine eD v2 (λx=>x=w.heap.size) (λv=>ah v w (mG s) 232) ρB (λ_ kx=>θ2 (JE.trans kx ρc) (G2.ko kx (λy hy=>by omega))) ?_;rintro v3 R3 ⟨JI,G3⟩;replace rR:=R3.r;refine ZO (v:=wv s) (by simp[results,Tryz.results188,go_sem,rR.1]) rfl ?_;exact⟨s,rfl,by rw[<- hn.out];exact hs,JI.toBelow⟩
theorem ES (s t:Int)(w:ϖ)(hs:0<=s/\s<=288230376151711744)(ht:0<=t/\t<=65536):
  CB 236 #[wv s,ι ε t] w (wv (s*t)):=by
 have h1:hi s=0:=by unfold hi;omega
 have h2:lo s=s:=by unfold lo;omega
 have hw:IntKind.u64.wrap t=t:=ZZ _ ⟨by omega,by omega⟩;obtain⟨p,hp⟩:=Nq (s*t);have hpr:0<=p/\p<=18889465931478580854784:=τi;have hph:0<=hi p/\hi p<=Ma:=by unfold hi;omega
 have Wg:IntKind.u64.wrap (hi p)=hi p:=ZZ _ ⟨hph.1,by omega⟩;have JG:=KO.refl (λ_=>False) w;have hsv:wv s=φ #[Ky,s]:=by show Value.agg _=_;rw[h1,h2]
 rw[hsv];clear h1 h2 hsv;unfold CB;go_in;go_wp2_with fail;refine Jc JG (λv=>ah v w #[Ky,s] 232/\ah v (w+1) #[Ky,Ky] 232) ⟨ρB,ρB⟩ ?_;rintro v1 ⟨S1,R1⟩ I';replace rR:=R1.r;have Rr:=S1.r;refine(rW s t t p v1 ρa ρa rfl hp).mono ?_;rintro e v2 ⟨rfl,kx⟩;clear Rr;obtain⟨⟨S2,R2,JE⟩,Rr⟩:=Mx kx (θ3 S1 R1 I');replace rR:=R2.r;clear kx;replace hp:=ag hp;go_upto_region 2 with (fail);have hXw:w.heap.size+1<v2:=rR.2.2;refine jf (θ3 JE S2 R2) (λv=>ah v v2 (mG p) 232) ρB ?_;clear Rr;rintro v3 X3 ⟨JI,S3,R3⟩ Rr;replace rR:=R3.r;replace cX:=X3.cell;replace fX:=X3.frozen;replace zX:=X3.size;obtain⟨X,hX⟩:=Nq v2.heap.size;rw[hX] at X3 cX fX zX hXw ⊢;clear hX;have hXR:X≠w+1:=ρa;go_wp2_with fail;refine eD v3 (λx=>x=w.heap.size+1\/x=X) (λv=>ah v w #[Ky,s] 232/\ah v (w+1) (mG p) 232/\ah v (X) (mG p) 232) ⟨ρB,ρB,ρB⟩ (λ_ kx=>(JI.trans kx ρc)) ?_;rintro v5 ⟨S5,R5,X5⟩ JP;replace rR:=R5.r;replace Rr:=S5.r;replace cX:=X5.cell;replace fX:=X5.frozen;replace zX:=X5.size;refine ZO (v:=wv p) (by simp[results,Tryz.results236,go_sem,rR.1]) rfl ?_;exact⟨by rw[hp.out],JP.toBelow⟩
theorem zN (s t x:Int)(w:ϖ)(hs:0<=s/\s<=288230376151711744)(ht:0<=t/\t<=65536)(hx:kM x):
  CB 186 #[wv s,ι ε t,x] w (β (decide (0<kS (s*t) (65536*x)))):=by
 obtain⟨p,hp⟩:=Nq (s*t);obtain⟨r,hr⟩:=Nq (65536*x);obtain⟨c,hc⟩:=Nq (kS p r);have hpr:0<=p/\p<=18889465931478580854784:=τi;have RT:ai p:=ρz;have r128:ai r:=ρz;have cT:=λu=>ES s t u hs ht;rw[hp] at cT;rw[hp,hr,hc];change Hid _ at hp hr hc cT;unfold CB;go_in;go_wp2_with (first|(go_at_call 236;refine(cT.out _).mono ?_;rintro e u1 ⟨rfl,kx1⟩)|(go_at_call 211;refine(rW 65536 x x r _ ρa ρa rfl hr.out).mono ?_;rintro e u2 ⟨rfl,Uq⟩)|(go_at_call 235;refine(nW p r c _ RT r128 hc.out).mono ?_;rintro e u3 ⟨rfl,kx3⟩));go_ret;have b1:Below w w u1:=Below.trans ρE (kx1.mono ρp);have b2:Below w w u2:=b1.trans (Uq.mono b1.size);exact⟨rfl,b2.trans (kx3.mono b2.size)⟩
theorem Gu (c:CD)(w:ϖ)(hc:cV c.r0 c.r1 c.r2):
  CB 181 #[φ (aJ c.r0 c.r1 c.r2)] w dK:=by
 have MG:(kd c.r0 c.r1 c.r2 !=0)=true:=by have:=hc.1;simpa using this
 unfold CB;go_in;go_wp2_with (go_at_call 182;refine(jq c.r0 c.r1 c.r2 _ ⟨hc.2.1.1,hc.2.2.1.1,hc.2.2.2.1⟩ true MG).mono ?_;rintro e u1 ⟨rfl,kx⟩);go_ret;exact⟨rfl,Below.trans ρE (kx.mono ρp)⟩
theorem Cd (sl:ϗ)(l:List CD)(w:ϖ)(B:Nat)(G:aS 3 fu w B sl l)(hl:l.length<=49)(hc:∀c ∈ l,cV c.r0 c.r1 c.r2):
  CB 232 #[sl,.func (.func 181) #[] #[]] w (ι ε (-1)):=by
 have zB:B<=w:=ρv;obtain⟨oa,oc,rfl,-⟩:=G.slice;obtain⟨n,hn⟩:=Nq l.length;rw[hn] at G hl ⊢;have g:=enters_of Tryz.func181 ρh rfl;unfold CB;go_in;go_wp2_with fail;go_loopw [8] (λk wr=>∃(a b:List CD),k=ι ε (a.length:Nat)/\l=a++b/\aS 3 fu wr B (ζ oa n oc) l/\Below w w wr) (λk _=>n - (intOf k).toNat);case atStart=>exact⟨[],l,rfl,rfl,G.below ρE,ρE⟩
 case round=>
  obtain⟨a,b,rfl,JK,G0,JG⟩:=hrel;refine δa ?_;intro zw JO q hq;rw[hq] at JO ⊢;cases b with
  | nil=>refine η4 ?_;intro JM hd;go_wp2;go_ret;exact⟨rfl,JG.trans ρE⟩
  | cons c r=>
   refine η5 ?_;intro JM hd;have Kd:l[q]?=some c:=ρC;have Le:c ∈ l:=ρP;obtain⟨g0,off,rfl,hg,RA⟩:=G0.at Kd;change Hid _ at JO hq JK Kd hn;have Oc:g0<wr:=ρa;go_upto_region 4 with (fail);go_wp2_with (refine Go.wpList_load_mid rfl 41 _ rfl g0 (off+q*3) rfl (fu c) _ RA Tryz.underlying41 rfl ρh ?_;try simp only[fu]);refine au wr (λv=>Below wr wr v) (λv=>Below wr wr v) ρE (λkx=>kx) ?_;rintro v1 k1;refine(Gu c v1 (hc c Le)).mono ?_;rintro e v2 ⟨rfl,kx⟩;have LY:=k1.trans (kx.mono k1.size);go_wp2;go_roundw;case rel=>exact⟨a++[c],r,by rw[ZL,hq.out];go_num,by rw[JK.out];simp,(G0.below LY).below ρE,(JG.trans (LY.mono zw)).trans ρE⟩
   case measure=>exact ξc
theorem EJ (sl:ϗ)(l:List CD)(w:ϖ)(B:Nat)(G:aS 3 fu w B sl l)(hl:l.length<=49)(hc:∀c ∈ l,cV c.r0 c.r1 c.r2):
  CB 180 #[sl,.func (.func 181) #[] #[]] w dK:=by
 unfold CB;go_in;go_wp2_with fail;refine δN ?_;rintro v1 k1;refine(Cd sl l v1 B (G.below k1) hl hc).mono ?_;rintro e v2 ⟨rfl,kx⟩;go_wp2;go_ret;exact⟨rfl,(k1.trans (kx.mono k1.size)).trans ρE⟩
theorem Gt (t:Int)(ht:1<=t/\t<=65536)(sl:ϗ)(l:List CD)(w:ϖ)(B:Nat)(G:aS 3 fu w B sl l)(hl:l.length<=49)(hc:∀c ∈ l,cV c.r0 c.r1 c.r2):
  CB 144 #[ι ε t,sl] w Kz:=by
 have d1:=df (t<1);have d2:=df (65536<t);obtain⟨oa,oc,rfl,Uj⟩:=G.slice;obtain⟨n,hn⟩:=Nq l.length;rw[hn] at G ⊢;replace hn:=ag hn;obtain⟨sl,Ul⟩:=Nq (Value.slice oa n oc);rw[Ul] at G ⊢;unfold CB;go_in;go_wp2_with fail;refine δN ?_;rintro v1 k1;refine(EJ sl l v1 B (G.below k1) hl hc).mono ?_;rintro e v2 ⟨rfl,kx⟩;go_wp2;go_ret;exact⟨rfl,(k1.trans (kx.mono k1.size)).trans ρE⟩
theorem Cf (G n JN:Nat)(f:Nat->Int)(g:Nat)(lb:Array ϗ)(w:ϖ)(U:UR w G n f)(hn:n<=49)(eg:∀args w,(callFunc g args).run Ψ w=.ok (.enter g args) w)(hp:∀x,0<=x/\x<=1048576->∀v,Below w w v->Calls Ψ g (#[ι υ x]++lb) v λe v'=>∃b:Bool,e=ϰ (β b)/\Below v v v'):Calls Ψ 184 #[uf G n JN,.func (.func g) #[] lb] w λe w'=>∃i:Int,e=ϰ (ι ε i)/\-1<=i/\i<n/\Below w w w':=by
 go_in;go_wp2_with fail;go_loopw [8] (λk wr=>∃q:Nat,k=ι ε q/\q<=n/\UR wr G n f/\Below w w wr) (λk _=>n - (intOf k).toNat);case atStart=>exact⟨0,rfl,by omega,U.below ρE,ρE⟩
 case round=>
  obtain⟨q,rfl,hq,U0,JG⟩:=hrel;have zw:=JG.size;by_cases c1:q<n
  rotate_left
  ·have d1:=ZF c1;go_wp2;go_ret;exact⟨-1,rfl,by omega,by omega,JG.trans ρE⟩
  have d1:=ZT c1;have l1:=U0.cell (i:=q) c1;have zG:=U0.size;go_wp2_with fail;refine au wr (λv=>Below wr wr v) (λv=>Below wr wr v) ρE (λkx=>kx) ?_;rintro v1 k1;refine(hp (f q) (U0.1 q) v1 (JG.trans (k1.mono zw))).mono ?_;rintro e v2 ⟨b,rfl,kx⟩;have LY:=k1.trans (kx.mono k1.size);have U2:=U0.below LY;cases b with
  | true=>go_wp2;go_ret;exact⟨q,rfl,by omega,by omega,(JG.trans (LY.mono zw)).trans ρE⟩
  | false=>
   go_wp2;go_roundw;case rel=>exact⟨q+1,by first|rfl|(congr 1;omega)|go_num,by omega,U2.below ρE,(JG.trans (LY.mono zw)).trans ρE⟩
   case measure=>exact ξe
theorem Ce (fv:ϗ)(w:ϖ):
  CB 184 #[Kn,fv] w (ι ε (-1)):=by
 unfold CB;go_in;go_wp2_with fail;go_loopw [8] (λk wr=>k=Kz/\Below w w wr) (λk _=>0);case atStart=>exact⟨rfl,ρE⟩
 case round=>
  obtain⟨rfl,JG⟩:=hrel;go_wp2;go_ret;exact⟨rfl,JG.trans ρE⟩
theorem EK (t x:Int)(ht:1<=t/\t<=65536)(hx:kM x)(PL PT:Nat)(sl:ϗ)(l:List CD)(w:ϖ)(B:Nat)(G:aS 3 fu w B sl l)(hl:l.length<=49)(hc:∀c ∈ l,cV c.r0 c.r1 c.r2)(HL:ah w PL #[sl] 115)(HT:ah w PT #[ι ε t] 3):Calls Ψ 185 #[x,PL,PT] w λe w'=>∃b:Bool,e=ϰ (β b)/\Below w w w':=by
 obtain⟨oa,oc,rfl,Uj⟩:=G.slice;obtain⟨n,hn⟩:=Nq l.length;rw[hn] at G HL;replace hn:=ag hn;obtain⟨sl,Ul⟩:=Nq (Value.slice oa n oc);rw[Ul] at G HL;have cL:=HL.cell;have zL:=HL.size;have cT:=HT.cell;have zT:=HT.size;go_in;go_upto_region 1 with (fail);refine aW w (λv=>Below w w v) (λv=>Below w w v/\ah v PL #[sl] 115/\ah v PT #[ι ε t] 3) ρE (λkx=>⟨kx,HL.below kx zL,HT.below kx zT⟩) ?_;rintro v1 ⟨k1,L1,T1⟩;have G1:=G.below k1;replace cL:=L1.cell;replace zL:=L1.size;replace cT:=T1.cell;replace zT:=T1.size;go_region_with (first|(go_at_call 187;refine(Gx sl l x hx _ B (G1.below ρE) hl hc).mono ?_;rintro e v2 ⟨s,rfl,hs,kx⟩;have LY:Below v1 v1 v2:=Below.trans ρE (kx.mono ρp);have L2:=L1.below LY L1.size;have T2:=T1.below LY T1.size;have cT2:=T2.cell;have zT2:=T2.size;have QZ:0<=s/\s<=288230376151711744:=⟨hs.1,by have h9:(l.length:Int)<=49:=ρa;omega⟩)|(go_at_call 186;refine(zN s t x _ QZ ρa hx).mono ?_;rintro e v3 ⟨rfl,ky⟩;have OG:Below v2 v2 v3:=Below.trans ρE (ky.mono ρp)))
 all_goals
  go_wp2;go_ret;exact⟨_,rfl,((k1.trans (LY.mono k1.size)).trans (OG.mono (ZK k1.size LY.size))).trans ρE⟩
theorem Gq (t:Int)(ht:1<=t/\t<=65536)(sl:ϗ)(l:List CD)(w:ϖ)(B:Nat)(G:aS 3 fu w B sl l)(hl:l.length<=49)(hc:∀c ∈ l,cV c.r0 c.r1 c.r2):Calls Ψ 145 #[ι ε t,sl] w λe w'=>∃(k:Int)(b:Bool),e=ϰ (χ #[k,β b])/\Below w w w'/\(l=[]->b=false):=by
 obtain⟨oa,oc,rfl,Uj⟩:=G.slice;obtain⟨n,hn⟩:=Nq l.length;rw[hn] at G ⊢;replace hn:=ag hn;have G0:=G;have JG:=KO.refl (λ_=>False) w;go_in;go_wp2_with fail;refine Jc (θ2 JG G0) (λv=>ah v w #[ι ε t] 3/\ah v (w+1) #[ζ oa n oc] 115) ⟨ρB,ρB⟩ ?_;rintro v1 ⟨T1,L1⟩ ⟨I',G1⟩;replace cT:=T1.cell;replace fT:=T1.frozen;replace zT:=T1.size;replace cL:=L1.cell;replace fL:=L1.frozen;replace zL:=L1.size;refine(Gt t ht (ζ oa n oc) l v1 B G1 hl hc).mono ?_;rintro e v2 ⟨rfl,kx⟩;obtain⟨G2,T2,L2,JE⟩:=Mw kx (θ4 G1 T1 L1 I');replace cT:=T2.cell;replace fT:=T2.frozen;replace zT:=T2.size;replace cL:=L2.cell;replace fL:=L2.frozen;replace zL:=L2.size;clear kx;go_wp2_with fail;refine Zc (θ4 JE G2 T2 L2) ?_;rintro v3 ⟨JI,G3,T3,L3⟩;replace cT:=T3.cell;replace fT:=T3.frozen;replace zT:=T3.size;replace cL:=L3.cell;replace fL:=L3.frozen;replace zL:=L3.size;refine(EL (ζ oa n oc) l v3 B G3 hl hc).mono ?_;rintro e v4 ⟨u,rfl,kx,hu⟩;obtain⟨G4,T4,L4,JJ⟩:=Mw kx (θ4 G3 T3 L3 JI);replace cT:=T4.cell;replace fT:=T4.frozen;replace zT:=T4.size;replace cL:=L4.cell;replace fL:=L4.frozen;replace zL:=L4.size;clear kx;rcases hu with rfl|⟨g,m,JN,rfl,hm,Kv,hU,JX⟩
 ·go_wp2_with fail;refine Zc (θ4 JJ G4 T4 L4) ?_;rintro v5 ⟨JP,G5,T5,L5⟩;replace cT:=T5.cell;replace fT:=T5.frozen;replace zT:=T5.size;replace cL:=L5.cell;replace fL:=L5.frozen;replace zL:=L5.size;refine(Ce _ v5).mono ?_;rintro e v6 ⟨rfl,kx⟩;obtain⟨G6,T6,L6,JT⟩:=Mw kx (θ4 G5 T5 L5 JP);replace cT:=T6.cell;replace fT:=T6.frozen;replace zT:=T6.size;replace cL:=L6.cell;replace fL:=L6.frozen;replace zL:=L6.size;clear kx;have e1:decide (0<=(-1:Int))=false:=rfl;exact ξd
 ·have U4:=hU;clear hU;go_wp2_with fail;refine Zc (θ5 JJ G4 T4 L4 U4) ?_;rintro v5 ⟨JP,G5,T5,L5,U5⟩;replace cT:=T5.cell;replace fT:=T5.frozen;replace zT:=T5.size;replace cL:=L5.cell;replace fL:=L5.frozen;replace zL:=L5.size;obtain⟨f,UF⟩:=U5;have GG:=G5;have LL:=L5;have TT:=T5;refine(Cf g m JN f 185 #[ψ (some ⟨w+1,0,none⟩),w] v5 UF hm (enters_of Tryz.func185 ρh rfl) (λx hx v hv=>EK t x ht hx (w+1) w (ζ oa n oc) l v B (GG.below hv) hl hc (LL.below hv LL.size) (TT.below hv TT.size))).mono ?_;rintro e v6 ⟨i,rfl,hi1,hi2,kx⟩;obtain⟨U6,G6,L6,T6,JT⟩:=Mw kx (θ5 UF G5 L5 T5 JP);clear cL fL zL cT fT zT;have cL:=L6.cell;have fL:=L6.frozen;have zL:=L6.size;have cT:=T6.cell;have fT:=T6.frozen;have zT:=T6.size;by_cases c1:0<=i
  ·have d1:=ZT c1;obtain⟨q,rfl⟩:∃q:Nat,i=(q:Int):=⟨i.toNat,by omega⟩;have l1:=U6.cell (i:=q) ρa;have hq:q<m:=ρa;go_wp2;go_ret2;exact⟨_,_,rfl,(JT.step0 ρE).toBelow,λe=>az e JX⟩
  ·have d1:=ZF c1;exact ξd
theorem DX (v:ϗ)(L:List CD)(Ng:∀c ∈ L,(0<=c.r0/\0<=c.r1/\0<=c.r2)/\kd c.r0 c.r1 c.r2≠0)(w:ϖ)(B:Nat)(G:aS 3 fu w B v L)(hl:L.length<=1000):Calls Ψ 99 #[v] w λe w'=>∃u,e=ϰ u/\∃D,af 39 1 CO w' w u D/\D.length<=L.length/\(∀c ∈ L,3<=kd c.r0 c.r1 c.r2->c.r1 ∈ D)/\(∀d ∈ D,0<=d/\d<=1048576)/\Below w w w':=by
 obtain⟨oa,oc,rfl,-⟩:=G.slice;refine δf ?_;clear G hl;intro n hn G hl zB;go_in;go_wp2_with fail;go_loopw [3,12] (λo k wr=>∃(a b:List CD) (D:List Int),k=ι ε (a.length:Nat)/\L=a++b/\D.length<=a.length/\(∀c ∈ a,3<=kd c.r0 c.r1 c.r2->c.r1 ∈ D)/\(∀d ∈ D,0<=d/\d<=1048576)/\af 39 1 CO wr w o D/\aS 3 fu wr B (ζ oa n oc) L/\KO (λ_=>False) w wr) (λ_ k _=>n - (intOf k).toNat);case atStart=>exact⟨[],L,[],rfl,rfl,ZR _,λc h=>az h ρp,λd h=>az h ρp,af.nil _ _,G.below ρE,ρK⟩
 case round=>
  obtain⟨a,b,D,rfl,JK,MF,MH,VW,H0,G0,JG⟩:=hrel;refine δa ?_;intro zw JO q hq;obtain⟨ob,oe,rfl⟩:=af.slice H0;obtain⟨m,hm⟩:=Nq D.length;rw[hq] at JO MF ⊢;have I9:D.length<=1000:=ρa;rw[hm] at MF H0 ⊢;have hm9:m<=1000:=ρa;replace hm:=ag hm;cases b with
  | nil=>refine η4 ?_;intro JM hd;have KT:L=a:=ρL;change Hid _ at JO JK hq KT MH VW;go_wp2;go_ret;exact⟨_,rfl,D,af.below H0 ρE,by rw[hm.out];have:=JO.out;simp at this;omega,by rw[KT.out];exact MH.out,VW.out,JG.toBelow.trans ρE⟩
  | cons c r=>
   refine δD ?_;intro JM hd Kd;have My:q<n:=ρa;obtain⟨g0,off,rfl,hg,RA⟩:=G0.at Kd;have Oc:g0<wr:=ρa;obtain⟨KR,PD⟩:=Ng c ρP;obtain⟨kv,LQ⟩:=Nq (kd c.r0 c.r1 c.r2);have Wc:0<=c.r1/\c.r1<=1048576:=by have:=ia PD;omega
   clear PD;change Hid _ at JO hq JK Kd LQ MH VW hn;go_upto_region 4 with (fail);go_upto_region 5 with (refine Go.wpList_load_mid rfl 41 _ rfl g0 (off+q*3) rfl (fu c) _ RA Tryz.underlying41 rfl ρh ?_;try simp only[fu]);refine Jw (θ3 JG H0 G0) (λv=>ah v wr (aJ c.r0 c.r1 c.r2) 41) ρB ?_;rintro v1 X1 ⟨I',H1,G1⟩;replace cX:=X1.cell;replace fX:=X1.frozen;replace zX:=X1.size;go_wp2_with fail;refine Zc (θ4 I' H1 G1 X1) ?_;rintro v2 ⟨JE,H2,G2,X2⟩;replace cX:=X2.cell;replace fX:=X2.frozen;replace zX:=X2.size;refine(bM c.r0 c.r1 c.r2 kv v2 KR.1 KR.2.1 KR.2.2 LQ.out).mono ?_;rintro e v3 ⟨rfl,kx⟩;obtain⟨H3,G3,X3,JI⟩:=Mw kx (θ4 H2 G2 X2 JE);replace cX:=X3.cell;replace fX:=X3.frozen;replace zX:=X3.size;clear kx;by_cases c1:kv<3
   ·have d1:=ZT c1;replace c1:=ag c1;go_wp2;go_roundw;case rel=>exact⟨a++[c],r,D,by rw[ZL,hq.out];go_num,by rw[JK.out];simp,by rw[ZL,hq.out,hm.out];simp;omega,λy hy g=>(ZM.1 hy).elim (λh=>MH.out y h g) (λh=>by rw[ZS.1 h,LQ.out] at g;exact az g (by have:=c1.out;omega)),VW.out,af.below H3 ρE,G3.below ρE,JI.step0 ρE⟩
    case measure=>exact ξc
   have d1:=ZF c1;replace c1:=ag c1;have Z3:=af.rd H3 (λ_=>rfl);obtain⟨B2,OQ⟩:=Nq v3.heap.size;have hWB:wr<B2:=by rw[<- OQ];exact X3.size
   rw[OQ] at Z3;have hB2':B2<=v3:=ρa;have hBB:B<B2:=ρa;have hwB2:w<=B2:=ρa;clear OQ;obtain⟨W,rfl⟩:∃W:ϖ,W=wr:=⟨_,rfl⟩;go_wp2_with fail;go_loopw [6,7,21] (λo t k wr=>∃(e f M:List Int) (z:Bool),k=ι ε (e.length:Nat)/\t=β z/\D=e++f/\M.length<=e.length+(if z=true then 1 else 0)/\(z=true->c.r1 ∈ M)/\(∀d ∈ e,d ∈ M\/d=c.r1/\z=true)/\(∀d ∈ M,0<=d/\d<=1048576)/\af 39 1 CO wr B2 o M/\aS 1 CO wr B2 (ζ ob m oe) D/\ah wr W (aJ c.r0 c.r1 c.r2) 41/\aS 3 fu wr B (ζ (some ⟨g0,off,none⟩) n oc) L/\KO (λ_=>False) w wr) (λ_ _ k _=>m - (intOf k).toNat);case atStart=>exact⟨[],D,[],false,rfl,rfl,rfl,by simp,λh=>az h ρf,λd h=>az h ρp,λd h=>az h ρp,af.nil _ _,Z3.below ρE,ρB,G3.below ρE,JI.step0 ρE⟩
   case round=>
    obtain⟨e,f,M,z,rfl,rfl,QV,QR,OW,Sx,MY,J4,Z4,X4,G4,JJ⟩:=hrel;have zw4:=JJ.size;have zZ4:B2<=wr:=by obtain⟨_,_,_,_,h,_⟩:=Z4;exact h
    clear H3 Z3 G3 JI X3 cX fX zX;have cX:=X4.cell;have fX:=X4.frozen;have zX:=X4.size;have NT:e.length+f.length=m:=by rw[<- hm.out,QV,ZL]
    obtain⟨p,hp⟩:=Nq e.length;obtain⟨oj,ok,rfl⟩:=af.slice J4;rw[hp] at NT QR ⊢;have hM9:M.length<=2000:=by split at QR<;>omega
    cases f with
    | nil=>
     have KQ:¬(p:Int)<(m:Int):=by simp at NT;omega
     have ME:=ZF KQ;have hDe:D=e:=by rw[QV,ZA]
     have hpm:p=m:=by simp at NT;omega
     cases z with
     | true=>
      have hL:=ag (show (M).length<=(a++[c]).length by simp only[ZL,sg,hq.out];simp at QR;omega);have hA:=ag (show ∀y ∈ a++[c],3<=kd y.r0 y.r1 y.r2->y.r1 ∈ M from λy hy g=>by (have h1:=MH.out y;rw[hDe] at h1;have h2:=Sx y.r1;simp at hy OW h2 ⊢;rcases hy with h|h;(have h3:=h2 (h1 h g);grind);(rw[h];first|exact OW|simp)));have hB:=ag (show ∀d ∈ M,0<=d/\d<=1048576 from λd hd=>by first|exact MY d hd|(rcases ZM.1 hd with h|h;exact MY d h;rw[ZS.1 h];exact Wc));change Hid _ at NT QV hp hDe OW Sx MY QR;go_wp2;go_roundw;case rel=>exact⟨a++[c],r,M,by rw[ZL,hq.out];go_num,by rw[JK.out];simp,hL.out,hA.out,hB.out,(af.below J4 ρE).base_le hwB2,G4.below ρE,JJ.step0 ρE⟩
      case measure=>exact ξc
     | false=>
      have hL:=ag (show (M++[c.r1]).length<=(a++[c]).length by simp only[ZL,sg,hq.out];simp at QR;omega);have hA:=ag (show ∀y ∈ a++[c],3<=kd y.r0 y.r1 y.r2->y.r1 ∈ M++[c.r1] from λy hy g=>by (have h1:=MH.out y;rw[hDe] at h1;have h2:=Sx y.r1;simp at hy OW h2 ⊢;rcases hy with h|h;(have h3:=h2 (h1 h g);grind);(rw[h];first|exact OW|simp)));have hB:=ag (show ∀d ∈ M++[c.r1],0<=d/\d<=1048576 from λd hd=>by first|exact MY d hd|(rcases ZM.1 hd with h|h;exact MY d h;rw[ZS.1 h];exact Wc));change Hid _ at NT QV hp hDe OW Sx MY QR;go_wp2_with (refine aw Tryz.underlying197 ei rfl (λ_=>rfl) ρI ρf ρf rfl (.tmp 49) (.tmp 52) rfl B2 (ζ oj M.length ok) M c.r1 wr #[c.r1] rfl ρs ρs (J4.below ρE) ρB ρa ρJ ?_;intro o5 v5 J5 kx;replace kx:=kx.of_alloc;have Z5:=Z4.ko kx (λy hy=>af.notown J4 ρa);have X5:=X4.ko kx (af.notown J4 ρa);have G5:=G4.ko kx (λy hy=>af.notown J4 ρa);have JP:KO (λ_=>False) w v5:=JJ.trans kx σO;have zk5:=JP.size;replace cX:=X5.cell;replace fX:=X5.frozen;replace zX:=X5.size);go_roundw;case rel=>exact⟨a++[c],r,M++[c.r1],by rw[ZL,hq.out];go_num,by rw[JK.out];simp,hL.out,hA.out,hB.out,(af.below J5 ρE).base_le hwB2,G5.below ρE,JP.step0 ρE⟩
      case measure=>exact ξc
    | cons d s=>
     have KQ:(p:Int)<(m:Int):=by simp at NT;omega
     have ME:=ZT KQ;have hcd:D[p]?=some d:=by rw[QV,<- hp];simp
     obtain⟨g1,QD,rfl,hg1,Zn⟩:=Z4.at hcd;have b0:wr.cell? ⟨g1,QD+p*1,none⟩=some (ι υ d):=Zn 0 _ rfl;have bb:wr.cell? ⟨g1,QD+p,none⟩=some (ι υ d):=κd;have hdd:0<=d/\d<=1048576:=VW.out d (by rw[QV];simp);have hgw1:g1<wr:=ρa;by_cases c2:d=c.r1
     ·have e2:(d !=c.r1)=false:=by simp[c2]
      cases z with
      | true=>
       have hL:=ag (show (M).length<=p+1+(if true=true then 1 else 0) by (try simp only[ZL,sg]);(try simp at QR);(try simp);omega);have hZ:=ag (show true=true->c.r1 ∈ M from by (try simp at OW ⊢);(try grind));have hE:=ag (show ∀x ∈ e++[d],x ∈ M\/x=c.r1/\true=true from λx hx=>by have h2:=Sx x;simp at hx h2 OW ⊢;grind);have hB:=ag (show ∀x ∈ M,0<=x/\x<=1048576 from λx hx=>by have h2:=MY x;(try simp at hx);grind);change Hid _ at NT QV hp OW Sx MY QR hcd;go_wp2;go_roundw;case rel=>exact⟨e++[d],s,M,true,by rw[ZL,hp.out];go_num,rfl,by rw[QV.out];simp,by have:=hL.out;(try simp only[ZL,sg,hp.out] at this ⊢);exact this,hZ.out,hE.out,hB.out,af.below J4 ρE,Z4.below ρE,ρB,G4.below ρE,JJ.step0 ρE⟩
       case measure=>exact ηN
      | false=>
       have e3:=dt (c.r1<=d);have hL:=ag (show (M++[c.r1]).length<=p+1+(if true=true then 1 else 0) by (try simp only[ZL,sg]);(try simp at QR);(try simp);omega);have hZ:=ag (show true=true->c.r1 ∈ M++[c.r1] from by (try simp at OW ⊢);(try grind));have hE:=ag (show ∀x ∈ e++[d],x ∈ M++[c.r1]\/x=c.r1/\true=true from λx hx=>by have h2:=Sx x;simp at hx h2 OW ⊢;grind);have hB:=ag (show ∀x ∈ M++[c.r1],0<=x/\x<=1048576 from λx hx=>by have h2:=MY x;(try simp at hx);grind);change Hid _ at NT QV hp OW Sx MY QR hcd;go_wp2_with (refine aw Tryz.underlying197 ei rfl (λ_=>rfl) ρI ρf ρf rfl (.tmp 33) (.tmp 36) rfl B2 (ζ oj M.length ok) M c.r1 wr #[c.r1] rfl ρs ρs (J4.below ρE) ρB ρa ρJ ?_;intro o5 v5 J5 kx;replace kx:=kx.of_alloc;have Z5:=Z4.ko kx (λy hy=>af.notown J4 ρa);have X5:=X4.ko kx (af.notown J4 ρa);have G5:=G4.ko kx (λy hy=>af.notown J4 ρa);have JP:KO (λ_=>False) w v5:=JJ.trans kx σO;have zk5:=JP.size;replace cX:=X5.cell;replace fX:=X5.frozen;replace zX:=X5.size);go_roundw;case rel=>exact⟨e++[d],s,(M++[c.r1]),true,by rw[ZL,hp.out];go_num,rfl,by rw[QV.out];simp,by have:=hL.out;(try simp only[ZL,sg,hp.out] at this ⊢);exact this,hZ.out,hE.out,hB.out,af.below J5 ρE,Z5.below ρE,ρB,G5.below ρE,JP.step0 ρE⟩
       case measure=>exact ηN
     ·have e2:(d !=c.r1)=true:=by simpa using c2
      cases z with
      | true=>
       have hL:=ag (show (M++[d]).length<=p+1+(if true=true then 1 else 0) by (try simp only[ZL,sg]);(try simp at QR);(try simp);omega);have hZ:=ag (show true=true->c.r1 ∈ M++[d] from by (try simp at OW ⊢);(try grind));have hE:=ag (show ∀x ∈ e++[d],x ∈ M++[d]\/x=c.r1/\true=true from λx hx=>by have h2:=Sx x;simp at hx h2 OW ⊢;grind);have hB:=ag (show ∀x ∈ M++[d],0<=x/\x<=1048576 from λx hx=>by have h2:=MY x;(try simp at hx);grind);change Hid _ at NT QV hp OW Sx MY QR hcd;go_wp2_with (refine aw Tryz.underlying197 ei rfl (λ_=>rfl) ρI ρf ρf rfl (.tmp 42) (.tmp 44) rfl B2 (ζ oj M.length ok) M d wr #[d] rfl ρs ρs (J4.below ρE) ρB ρa ρJ ?_;intro o5 v5 J5 kx;replace kx:=kx.of_alloc;have Z5:=Z4.ko kx (λy hy=>af.notown J4 ρa);have X5:=X4.ko kx (af.notown J4 ρa);have G5:=G4.ko kx (λy hy=>af.notown J4 ρa);have JP:KO (λ_=>False) w v5:=JJ.trans kx σO;have zk5:=JP.size;replace cX:=X5.cell;replace fX:=X5.frozen;replace zX:=X5.size);go_roundw;case rel=>exact⟨e++[d],s,(M++[d]),true,by rw[ZL,hp.out];go_num,rfl,by rw[QV.out];simp,by have:=hL.out;(try simp only[ZL,sg,hp.out] at this ⊢);exact this,hZ.out,hE.out,hB.out,af.below J5 ρE,Z5.below ρE,ρB,G5.below ρE,JP.step0 ρE⟩
       case measure=>exact ηN
      | false=>
       by_cases c3:c.r1<=d
       rotate_left
       ·have e3:=ZF c3;have hL:=ag (show (M++[d]).length<=p+1+(if false=true then 1 else 0) by (try simp only[ZL,sg]);(try simp at QR);(try simp);omega);have hZ:=ag (show false=true->c.r1 ∈ M++[d] from by (try simp at OW ⊢);(try grind));have hE:=ag (show ∀x ∈ e++[d],x ∈ M++[d]\/x=c.r1/\false=true from λx hx=>by have h2:=Sx x;simp at hx h2 OW ⊢;grind);have hB:=ag (show ∀x ∈ M++[d],0<=x/\x<=1048576 from λx hx=>by have h2:=MY x;(try simp at hx);grind);change Hid _ at NT QV hp OW Sx MY QR hcd;go_wp2_with (refine aw Tryz.underlying197 ei rfl (λ_=>rfl) ρI ρf ρf rfl (.tmp 42) (.tmp 44) rfl B2 (ζ oj M.length ok) M d wr #[d] rfl ρs ρs (J4.below ρE) ρB ρa ρJ ?_;intro o5 v5 J5 kx;replace kx:=kx.of_alloc;have Z5:=Z4.ko kx (λy hy=>af.notown J4 ρa);have X5:=X4.ko kx (af.notown J4 ρa);have G5:=G4.ko kx (λy hy=>af.notown J4 ρa);have JP:KO (λ_=>False) w v5:=JJ.trans kx σO;have zk5:=JP.size;replace cX:=X5.cell;replace fX:=X5.frozen;replace zX:=X5.size);go_roundw;case rel=>exact⟨e++[d],s,(M++[d]),false,by rw[ZL,hp.out];go_num,rfl,by rw[QV.out];simp,by have:=hL.out;(try simp only[ZL,sg,hp.out] at this ⊢);exact this,hZ.out,hE.out,hB.out,af.below J5 ρE,Z5.below ρE,ρB,G5.below ρE,JP.step0 ρE⟩
        case measure=>exact ηN
       ·have e3:=ZT c3;have hL:=ag (show (M++[c.r1]++[d]).length<=p+1+(if true=true then 1 else 0) by (try simp only[ZL,sg]);(try simp at QR);(try simp);omega);have hZ:=ag (show true=true->c.r1 ∈ M++[c.r1]++[d] from by (try simp at OW ⊢);(try grind));have hE:=ag (show ∀x ∈ e++[d],x ∈ M++[c.r1]++[d]\/x=c.r1/\true=true from λx hx=>by have h2:=Sx x;simp at hx h2 OW ⊢;grind);have hB:=ag (show ∀x ∈ M++[c.r1]++[d],0<=x/\x<=1048576 from λx hx=>by have h2:=MY x;(try simp at hx);grind);change Hid _ at NT QV hp OW Sx MY QR hcd;go_upto_region 13 with (refine aw Tryz.underlying197 ei rfl (λ_=>rfl) ρI ρf ρf rfl (.tmp 33) (.tmp 36) rfl B2 (ζ oj M.length ok) M c.r1 wr #[c.r1] rfl ρs ρs (J4.below ρE) ρB ρa ρJ ?_;intro o5 v5 J5 kx;replace kx:=kx.of_alloc;have Z5:=Z4.ko kx (λy hy=>af.notown J4 ρa);have X5:=X4.ko kx (af.notown J4 ρa);have G5:=G4.ko kx (λy hy=>af.notown J4 ρa);have JP:KO (λ_=>False) w v5:=JJ.trans kx σO;have zk5:=JP.size;replace cX:=X5.cell;replace fX:=X5.frozen;replace zX:=X5.size);obtain⟨oj5,Od,rfl⟩:=af.slice J5;have zZ5:B2<=v5:=by obtain⟨_,_,_,_,h,_⟩:=Z5;exact h
        obtain⟨M5,Yi⟩:=Nq (M++[c.r1]);have hM59:M5.length<=2001:=by rw[<- Yi,ZL];simp;omega
        rw[Yi] at J5 ⊢;replace Yi:=ag Yi;go_wp2_with (refine aw Tryz.underlying197 ei rfl (λ_=>rfl) ρI ρf ρf rfl (.tmp 42) (.tmp 44) rfl B2 (ζ oj5 M5.length Od) M5 d v5 #[d] rfl ρs ρs (J5.below ρE) ρB ρa ρJ ?_;intro o6 v6 J6 kx;replace kx:=kx.of_alloc;have Z6:=Z5.ko kx (λy hy=>af.notown J5 ρa);have X6:=X5.ko kx (af.notown J5 ρa);have G6:=G5.ko kx (λy hy=>af.notown J5 ρa);have JT:KO (λ_=>False) w v6:=JP.trans kx (by intro y hy h;exact az h (af.notown J5 ρa));have zk6:=JT.size;replace cX:=X6.cell;replace fX:=X6.frozen;replace zX:=X6.size);go_roundw;case rel=>exact⟨e++[d],s,(M5++[d]),true,by rw[ZL,hp.out];go_num,rfl,by rw[QV.out];simp,by rw[<- Yi.out];have:=hL.out;(try simp only[ZL,sg,hp.out] at this ⊢);exact this,by rw[<- Yi.out];exact hZ.out,by rw[<- Yi.out];exact hE.out,by rw[<- Yi.out];exact hB.out,af.below J6 ρE,Z6.below ρE,ρB,G6.below ρE,JT.step0 ρE⟩
        case measure=>exact ηN
def xc (t:Int)(R:List CD):Prop:=(∀c ∈ R,kd c.r0 c.r1 c.r2≠0)/\(∀c ∈ R,3<=kd c.r0 c.r1 c.r2->(R.map λc'=>sk c'.r0 c'.r1 c'.r2 c.r1).sum*t<=65536*c.r1)/\(R.map λc=>c.r2).sum*t<=65536
theorem Ej {m d n t:Int} (h:0<=m/\0<=d/\0<=n)(h0:0<=t)(h1:t<=1048576):0<=sk m d n t/\sk m d n t<=4503599627370496:=by
 unfold sk;split
 ·omega
 ·rename_i g;have:=ia g;have h2:=mA (m:=m) (d:=d) (n:=n) (t:=t) ρa ρa ρa h0;have:Md*t<=Md*1048576:=ZU h1 ρa;omega
theorem vd {f:CD->Int} {B:Int}:∀{L:List CD},(∀c ∈ L,0<=f c/\f c<=B)->(L.length:Int)*B<=Mc->0<=(L.map f).sum/\(L.map f).sum<=Mc:=by
 have key:∀{L:List CD},(∀c ∈ L,0<=f c/\f c<=B)->0<=(L.map f).sum/\(L.map f).sum<=(L.length:Int)*B:=by
  intro L
  induction L with
  | nil=>intro _;simp
  | cons c r ih=>intro h;have h1:=h c ρp;have h2:=ih (λd hd=>h d (by simp[hd]));simp only[fV,List.sum_cons,uo,Int.natCast_add,Int.add_mul];omega
 intro L h g;exact⟨(key h).1,Int.le_trans (key h).2 g⟩
theorem FR (v:ϗ)(L:List CD)(t:Int)(ht:1<=t/\t<=65536)(Ng:∀c ∈ L,CN c)(MG:∀c ∈ L,kd c.r0 c.r1 c.r2≠0)(w:ϖ)(B:Nat)(G:aS 3 fu w B v L)(hl:L.length<=1000):Calls Ψ 68 #[ι ε t,v] w λe w'=>∃a z,e=ϰ (φ #[ι υ a,β z])/\(z=false->xc t L)/\Below w w w':=by
 obtain⟨oa,oc,rfl,-⟩:=G.slice;refine δf ?_;clear G hl;intro n hn G hl zB;have Nr:L.length<=1000:=ρa;have Lw:∀d:Int,0<=d/\d<=1048576->∀c ∈ L,(0<=c.r0/\0<=c.r1/\0<=c.r2)/\0<=sk c.r0 c.r1 c.r2 d/\sk c.r0 c.r1 c.r2 d<=4503599627370496:=λd hd c hc=>⟨(Ng c hc).1,Ej (Ng c hc).1 hd.1 hd.2⟩;have Ul:∀c ∈ L,(0<=c.r0/\0<=c.r1/\0<=c.r2)/\kd c.r0 c.r1 c.r2≠0/\c.r2<=Md:=λc hc=>⟨(Ng c hc).1,MG c hc,by have:=ia (MG c hc);omega⟩;have PD:∀c ∈ L,(0<=c.r0/\0<=c.r1/\0<=c.r2)/\kd c.r0 c.r1 c.r2≠0:=λc hc=>⟨(Ng c hc).1,MG c hc⟩;obtain⟨sl,Xt⟩:=Nq ((L.map λc=>c.r2).sum);have hslb:0<=sl/\sl<=Mc:=by rw[<- Xt];exact vd (λc hc=>⟨(Ul c hc).1.2.2,(Ul c hc).2.2⟩) ρa
 have hSl:∀u B9 G9,aS 3 fu u B9 G9 L->CB 102 #[G9,dK] u (nv sl):=λu B9 G9 h=>by have g:=BG G9 L Ul u B9 h ρa;rw[Xt] at g;exact g
 change Hid _ at Xt hn;go_in;go_wp2_with fail;refine Jc (θ2 (Ks (λ_=>False) w) G) (λv=>ah v w #[Ky,dK] 143) ρB ?_;rintro v1 A1 ⟨I',G1⟩;have Rr:=A1.r;refine(CG _ L t ht Ng v1 B G1 ρa).mono ?_;rintro e v2 ⟨m,rfl,hm,kx⟩;clear Rr;obtain⟨⟨G2,A2,JE⟩,Rr⟩:=Mx kx (θ3 G1 A1 I');clear kx;obtain rfl:m=0:=EX λh=>by obtain⟨c,hc,h2⟩:=hm.2 h;exact MG c hc h2
 clear hm;go_wp2_with fail;refine Zc (θ3 JE G2 A2) ?_;rintro v3 ⟨JI,G3,A3⟩;refine(DX _ L PD v3 B G3 ρa).mono ?_;rintro e v4 ⟨u,rfl,D,HD,hDl,hDk,hDb,kx⟩;clear Rr;obtain⟨⟨G4,A4,JJ⟩,Rr⟩:=Mx kx (θ3 G3 A3 JI);clear kx;have D4:=af.rd HD (λ_=>rfl);obtain⟨B2,OQ⟩:=Nq v4.heap.size;have Sn:w<B2:=by rw[<- OQ];exact A4.size
 rw[OQ] at D4;clear OQ HD;obtain⟨da,dc,rfl,-⟩:=D4.slice;obtain⟨m,hm⟩:=Nq D.length;rw[hm] at D4 hDl ⊢;change Hid _ at hDk hDb;go_wp2_with fail;go_loopw [15] (fun  k wr=>∃(a b:List Int),k=ι ε (a.length:Nat)/\D=a++b/\(∀d ∈ a,(L.map λe=>sk e.r0 e.r1 e.r2 d).sum*t<=65536*d)/\ah wr w #[Ky,dK] 143/\aS 3 fu wr B (ζ oa n oc) L/\aS 1 CO wr B2 (ζ da m dc) D/\KO (λ_=>False) w wr) (λk _=>m - (intOf k).toNat);case atStart=>exact⟨[],D,rfl,rfl,λd h=>az h ρp,ρB,G4.below ρE,D4.below ρE,JJ.step0 ρE⟩
 case round=>
  obtain⟨a,b,rfl,JK,MH,A0,L0,G0,JG⟩:=hrel;have zw:=JG.size;have JO:a.length+b.length=m:=τY;obtain⟨q,hq⟩:=Nq a.length;rw[hq] at JO ⊢;have Ss:=A0.r;cases b with
  | nil=>
   have JM:¬(q:Int)<(m:Int):=ρn;have hd:=ZF JM;have KT:D=a:=ρL;change Hid _ at JO JK hq KT MH;obtain⟨z,hz⟩:=Nq (!decide (65536*1<sl*t));have hCr:∀u,CB 100 #[nv sl,ι ε t,ι υ 1] u (β z):=λu=>by have g:=qL sl t 1 u hslb ⟨by omega,by omega⟩ ρa;rw[hz] at g;exact g
   replace hz:=ag hz;go_wp2_with fail;refine Zc (θ3 JG A0 L0) ?_;rintro v1 ⟨I',A1,L1⟩;refine(hSl v1 B _ L1).mono ?_;rintro e v2 ⟨rfl,kx⟩;clear Rr Ss;obtain⟨⟨A2,L2,JE⟩,Rr⟩:=Mx kx (θ3 A1 L1 I');clear kx;go_wp2_with fail;refine Zc (θ3 JE A2 L2) ?_;rintro v3 ⟨JI,A3,L3⟩;refine(hCr v3).mono ?_;rintro e v4 ⟨rfl,kx⟩;clear Rr;obtain⟨⟨A4,L4,JJ⟩,Rr⟩:=Mx kx (θ3 A3 L3 JI);clear kx;go_wp2_with fail;refine eD v4 (λx=>x=w.heap.size) (λv=>ah v w #[Ky,β (!z)] 143) ρB (λ_ kx=>kx) ?_;rintro v9 R9 k9;have KS:=R9.cell;refine ZO (v:=φ #[Ky,β (!z)]) (by simp[results,Tryz.results68,go_sem,KS]) rfl ?_;exact⟨0,!z,rfl,λh=>⟨MG,λc hc g=>MH.out c.r1 (by rw[<- KT.out];exact hDk.out c hc g),by have h2:=hz.out;rw[Xt.out];rw[<- h2] at h;simp at h;omega⟩,JJ.toBelow.trans (k9.below JJ.size ρF)⟩
  | cons c r=>
   have JM:(q:Int)<(m:Int):=ρn;have hd:=ZT JM;have Kd:D[q]?=some c:=ρC;have Le:c ∈ D:=ρP;have My:q<m:=ρa;have Wn:B2<=wr:=σe;obtain⟨g0,off,rfl,hg,RA⟩:=G0.at Kd;have Oc:g0<wr:=ρa;have VW:=hDb.out c Le;obtain⟨S,hS⟩:=Nq ((L.map λe=>sk e.r0 e.r1 e.r2 c).sum);have hSb:0<=S/\S<=Mc:=by rw[<- hS];exact vd (B:=4503599627370496) (λd hd=>(Lw c VW d hd).2) ρa
   have hSv:∀u B9 G9,aS 3 fu u B9 G9 L->CB 101 #[G9,c] u (nv S):=λu B9 G9 h=>by have g:=wq G9 L c ⟨VW.1,by omega⟩ (Lw c VW) u B9 h Nr;rw[hS] at g;exact g
   obtain⟨z,hz⟩:=Nq (!decide (65536*c<S*t));have hCr:∀u,CB 100 #[nv S,ι ε t,c] u (β z):=λu=>by have g:=qL S t c u hSb ⟨by omega,by omega⟩ ⟨VW.1,by omega⟩;rw[hz] at g;exact g
   have b0:wr.cell? ⟨g0,off+q*1,none⟩=some (ι υ c):=RA 0 _ rfl;have bb:wr.cell? ⟨g0,off+q,none⟩=some (ι υ c):=κd;change Hid _ at hz hS JO JK hq Kd MH;go_wp2_with fail;refine Zc (θ4 JG A0 L0 G0) ?_;rintro v1 ⟨I',A1,L1,G1⟩;refine(hSv v1 B _ L1).mono ?_;rintro e v2 ⟨rfl,kx⟩;clear Rr Ss;obtain⟨⟨A2,L2,G2,JE⟩,Rr⟩:=Mx kx (θ4 A1 L1 G1 I');clear kx;go_wp2_with fail;refine Zc (θ4 JE A2 L2 G2) ?_;rintro v3 ⟨JI,A3,L3,G3⟩;refine(hCr v3).mono ?_;rintro e v4 ⟨rfl,kx⟩;clear Rr;obtain⟨⟨A4,L4,G4,JJ⟩,Rr⟩:=Mx kx (θ4 A3 L3 G3 JI);clear kx;cases z
   ·go_wp2_with fail;refine eD v4 (λx=>x=w.heap.size) (λv=>ah v w #[c,fK] 143) ρB (λ_ kx=>kx) ?_;rintro v9 R9 k9;have KS:=R9.cell;refine ZO (v:=φ #[c,fK]) (by simp[results,Tryz.results68,go_sem,KS]) rfl ?_;exact⟨c,true,rfl,λh=>az h ρf,JJ.toBelow.trans (k9.below JJ.size ρF)⟩
   ·go_wp2;go_roundw;case rel=>exact⟨a++[c],r,by rw[ZL,hq.out];go_num,by rw[JK.out];simp,λy hy=>(ZM.1 hy).elim (MH.out y) (λh=>by rw[ZS.1 h,hS.out];have h2:=hz.out;simp at h2;omega),ρB,L4.below ρE,G4.below ρE,JJ.step0 ρE⟩
    case measure=>exact ξc
theorem FQ (v:ϗ)(L:List CD)(t:Int)(ht:1<=t/\t<=65536)(Ng:∀c ∈ L,CN c)(w:ϖ)(B:Nat)(G:aS 3 fu w B v L)(hl:L.length<=1000):Calls Ψ 46 #[ι ε t,v] w λe w'=>∃m,e=ϰ (ι ε m)/\(m=0->xc t L)/\Below w w w':=by
 obtain⟨oa,oc,rfl,-⟩:=G.slice;refine δf ?_;clear G hl;intro n hn G hl zB;go_in;go_wp2_with fail;refine Zc (θ2 (Ks (λ_=>False) w) G) ?_;rintro v1 ⟨I',G1⟩;refine(CG _ L t ht Ng v1 B G1 ρa).mono ?_;rintro e v2 ⟨m,rfl,hm,kx⟩;obtain⟨G2,JE⟩:=Mw kx (θ2 G1 I');clear kx;by_cases cm:m=0
 rotate_left
 ·have dm:(m !=0)=true:=by simpa using cm
  go_wp2;go_ret;exact⟨m,rfl,λh=>az h cm,JE.toBelow.trans ρE⟩
 subst cm;have MG:=hm.1 rfl;clear hm;go_wp2_with fail;refine Zc (θ2 JE G2) ?_;rintro v3 ⟨JI,G3⟩;refine(FR _ L t ht Ng MG v3 B G3 ρa).mono ?_;rintro e v4 ⟨a,z,rfl,hz,kx⟩;obtain⟨G4,JJ⟩:=Mw kx (θ2 G3 JI);clear kx;have hF:∀b v,(Instr.field 143 (φ #[a,β b]) 1).run Ψ v=.ok (β b) v:=λb v=>by kernel_rfl
 cases z
 ·replace hz:=ag (hz rfl);go_wp2;go_ret;exact⟨0,rfl,λ_=>hz.out,JJ.toBelow.trans ρE⟩
 ·clear hz;go_wp2;go_ret;exact⟨22,rfl,λh=>az h ρf,JJ.toBelow.trans ρE⟩
end Go.Proofs.YtfdlemkplejdnaaGreat
