/- WholeBehind, part 14. Conditions: none. -/
import Derived.Test.YtfdlemkplejdnaaGreatA10
namespace Go.Proofs.YtfdlemkplejdnaaGreat
open Go.RowKit Go.Sort
open Value renaming int->ι,pointer->ψ,slice->ζ,tuple->χ,agg->φ,map->μ,bool->β
open IntKind renaming u64->υ,i64->ε,u16->ω
open Ending renaming returned->ϰ
open Go.Proofs.Tryz renaming prog->Ψ,underlying3->Θ,underlying147->Δ,underlying152->Γ,underlying202->Φ,underlying39->Ξ,underlying207->Ω
open Go renaming World->ϖ,Value->ϗ
set_option linter.unusedVariables false
set_option linter.unusedSimpArgs false
set_option maxHeartbeats 8000000
set_option maxRecDepth 100000
theorem jE (a s u:RN)(l:LF)(m d n x q:Int)(C N L:Nat)(w:ϖ)(hm:aq m)(hd:aq d)(hn:aq n)(hx:0<=x/\x<=Mc)(hC:ah w C (aP m d n) 41)(hN:ah w N #[x] 39)(hL:ah w L (dB false l.D l.E l.p l.e l.t) 238)(hp:aq l.p)(hq:l.p*65536=q)(hs:RN.start m d n x q=s)(os:s.ok):
  CB 202 #[bW a,.func (.func 205) #[] #[],C,N,L] w (bW s):=by
 have J2:ai q:=σa;have Hq:=ag hq;have Hs:=ag hs;clear hq hs;have Rr:=θ3 hC.r hN.r hL.r;unfold CB;go_in;go_upto_region 1 with (fail);go_cut [8] (λp8 wx=>∃X:Nat,p8=X/\w.heap.size+1<X/\Below w w wx/\ah wx w (fW a) 236/\ah wx (w+1) nk 236/\ah wx (C) (aP m d n) 41/\ah wx (N) #[x] 39/\ah wx (L) (dB false l.D l.E l.p l.e l.t) 238/\ah wx X (fW s) 236);case first=>
  go_region_held3 (λv=>Bk v w (fW a) 236/\Bk v (w+1) nk 236/\Bk v (C) (aP m d n) 41/\Bk v (N) #[x] 39/\Bk v (L) (dB false l.D l.E l.p l.e l.t) 238/\Below w w v) (exact ρH)
   (first
    | (go_at_call 203;(with_reducible refine(nA l.p q _ hp Hq.out).mono ?_);refine bo ?_;intro w' f' IZ IY;(try have hX:=Xb f');(try simp only[World.size_alloc] at hX);(try have rX:=hX.r))
    | (go_at_call 205;(with_reducible refine(dY m d n x q s _ hm hd hn hx J2 Hs.out).mono ?_);refine bo ?_;intro w' f' IZ IY;(try have hX:=Xb f');(try simp only[World.size_alloc] at hX);(try have rX:=hX.r)))
  all_goals
   (try go_split_ands);go_wp2;go_meet;exact⟨_,rfl,ρb,ρE,ρB,ρB,ρB,ρB,ρB,ρB⟩
 case rest=>
  exact ηb
theorem kD (a s u:RN)(l:LF)(m d n x q:Int)(C N L:Nat)(w:ϖ)(hm:aq m)(hd:aq d)(hn:aq n)(hx:0<=x/\x<=Mc)(hC:ah w C (aP m d n) 41)(hN:ah w N #[x] 39)(hL:ah w L (dB true l.D l.E l.p l.e l.t) 238)(hp:aq l.p)(hq:l.p*65536=q)(hs:RN.start m d n x q=s)(os:s.ok)(oa:a.ok)(hu:RN.meet a s=u):
  CB 202 #[bW a,.func (.func 205) #[] #[],C,N,L] w (bW u):=by
 have J2:ai q:=σa;have Hq:=ag hq;have Hs:=ag hs;clear hq hs;have Hu:=ag hu;clear hu;have Rr:=θ3 hC.r hN.r hL.r;unfold CB;go_in;go_upto_region 1 with (fail);go_cut [8] (λp8 wx=>∃X:Nat,p8=X/\w.heap.size+1<X/\Below w w wx/\ah wx w (fW a) 236/\ah wx (w+1) nk 236/\ah wx (C) (aP m d n) 41/\ah wx (N) #[x] 39/\ah wx (L) (dB true l.D l.E l.p l.e l.t) 238/\ah wx X (fW s) 236);case first=>
  go_region_held3 (λv=>Bk v w (fW a) 236/\Bk v (w+1) nk 236/\Bk v (C) (aP m d n) 41/\Bk v (N) #[x] 39/\Bk v (L) (dB true l.D l.E l.p l.e l.t) 238/\Below w w v) (exact ρH)
   (first
    | (go_at_call 203;(with_reducible refine(nA l.p q _ hp Hq.out).mono ?_);refine bo ?_;intro w' f' IZ IY;(try have hX:=Xb f');(try simp only[World.size_alloc] at hX);(try have rX:=hX.r))
    | (go_at_call 205;(with_reducible refine(dY m d n x q s _ hm hd hn hx J2 Hs.out).mono ?_);refine bo ?_;intro w' f' IZ IY;(try have hX:=Xb f');(try simp only[World.size_alloc] at hX);(try have rX:=hX.r)))
  all_goals
   (try go_split_ands);go_wp2;go_meet;exact⟨_,rfl,ρb,ρE,ρB,ρB,ρB,ρB,ρB,ρB⟩
 case rest=>
  exact ξr
theorem jD (a s u:RN)(l:LF)(m d n x q:Int)(C N L:Nat)(w:ϖ)(hm:aq m)(hd:aq d)(hn:aq n)(hx:0<=x/\x<=Mc)(hC:ah w C (aP m d n) 41)(hN:ah w N #[x] 39)(hL:ah w L (dB false l.D l.E l.p l.e l.t) 238)(hp:aq l.p)(hq:l.p*65536=q)(hs:RN.ready m d n x q=s)(os:s.ok):
  CB 202 #[bW a,.func (.func 206) #[] #[],C,N,L] w (bW s):=by
 have J2:ai q:=σa;have Hq:=ag hq;have Hs:=ag hs;clear hq hs;have Rr:=θ3 hC.r hN.r hL.r;unfold CB;go_in;go_upto_region 1 with (fail);go_cut [8] (λp8 wx=>∃X:Nat,p8=X/\w.heap.size+1<X/\Below w w wx/\ah wx w (fW a) 236/\ah wx (w+1) nk 236/\ah wx (C) (aP m d n) 41/\ah wx (N) #[x] 39/\ah wx (L) (dB false l.D l.E l.p l.e l.t) 238/\ah wx X (fW s) 236);case first=>
  go_region_held3 (λv=>Bk v w (fW a) 236/\Bk v (w+1) nk 236/\Bk v (C) (aP m d n) 41/\Bk v (N) #[x] 39/\Bk v (L) (dB false l.D l.E l.p l.e l.t) 238/\Below w w v) (exact ρH)
   (first
    | (go_at_call 203;(with_reducible refine(nA l.p q _ hp Hq.out).mono ?_);refine bo ?_;intro w' f' IZ IY;(try have hX:=Xb f');(try simp only[World.size_alloc] at hX);(try have rX:=hX.r))
    | (go_at_call 206;(with_reducible refine(iL m d n x q s _ hm hd hn J2 Hs.out).mono ?_);refine bo ?_;intro w' f' IZ IY;(try have hX:=Xb f');(try simp only[World.size_alloc] at hX);(try have rX:=hX.r)))
  all_goals
   (try go_split_ands);go_wp2;go_meet;exact⟨_,rfl,ρb,ρE,ρB,ρB,ρB,ρB,ρB,ρB⟩
 case rest=>
  exact ηb
theorem kC (a s u:RN)(l:LF)(m d n x q:Int)(C N L:Nat)(w:ϖ)(hm:aq m)(hd:aq d)(hn:aq n)(hx:0<=x/\x<=Mc)(hC:ah w C (aP m d n) 41)(hN:ah w N #[x] 39)(hL:ah w L (dB true l.D l.E l.p l.e l.t) 238)(hp:aq l.p)(hq:l.p*65536=q)(hs:RN.ready m d n x q=s)(os:s.ok)(oa:a.ok)(hu:RN.meet a s=u):
  CB 202 #[bW a,.func (.func 206) #[] #[],C,N,L] w (bW u):=by
 have J2:ai q:=σa;have Hq:=ag hq;have Hs:=ag hs;clear hq hs;have Hu:=ag hu;clear hu;have Rr:=θ3 hC.r hN.r hL.r;unfold CB;go_in;go_upto_region 1 with (fail);go_cut [8] (λp8 wx=>∃X:Nat,p8=X/\w.heap.size+1<X/\Below w w wx/\ah wx w (fW a) 236/\ah wx (w+1) nk 236/\ah wx (C) (aP m d n) 41/\ah wx (N) #[x] 39/\ah wx (L) (dB true l.D l.E l.p l.e l.t) 238/\ah wx X (fW s) 236);case first=>
  go_region_held3 (λv=>Bk v w (fW a) 236/\Bk v (w+1) nk 236/\Bk v (C) (aP m d n) 41/\Bk v (N) #[x] 39/\Bk v (L) (dB true l.D l.E l.p l.e l.t) 238/\Below w w v) (exact ρH)
   (first
    | (go_at_call 203;(with_reducible refine(nA l.p q _ hp Hq.out).mono ?_);refine bo ?_;intro w' f' IZ IY;(try have hX:=Xb f');(try simp only[World.size_alloc] at hX);(try have rX:=hX.r))
    | (go_at_call 206;(with_reducible refine(iL m d n x q s _ hm hd hn J2 Hs.out).mono ?_);refine bo ?_;intro w' f' IZ IY;(try have hX:=Xb f');(try simp only[World.size_alloc] at hX);(try have rX:=hX.r)))
  all_goals
   (try go_split_ands);go_wp2;go_meet;exact⟨_,rfl,ρb,ρE,ρB,ρB,ρB,ρB,ρB,ρB⟩
 case rest=>
  exact ξr
theorem tB (l r:LF)(m d n x h q:Int)(s1 s2 u1 u2:RN)(w:ϖ)(hm:aq m)(hd:aq d)(hn:aq n)(hx:0<=x/\x<=Mc)(hl:l.ok)(hh:-Mc<=h/\h<=Mb)(hq:l.p*65536=q)(Ju:RN.start m d n x q=s1)(o1:s1.ok)(Ja:RN.ready m d n x q=s2)(o2:s2.ok)(hr:LF.headed ⟨true,s1,s2,l.p,l.e,l.t⟩ h=r):
  CB 154 #[φ (dB false l.D l.E l.p l.e l.t),φ (aP m d n),x,ι ε h] w (eF r):=by
 have hp:0<=l.p/\l.p<=Ma:=hl.2.2;have okD:l.D.ok:=hl.1;have okE:l.E.ok:=hl.2.1;have J2:ai q:=σa;have ok:LF.ok ⟨true,s1,s2,l.p,l.e,l.t⟩:=⟨o1,o2,hp⟩;have Hq:=ag hq;have Hs1:=ag Ju;have Hs2:=ag Ja;have Hr:=ag hr;clear hq Ju Ja hr;unfold CB;go_in;go_upto_region 2 with (fail);refine aI (λv=>Below w w v/\ah v w (dB false l.D l.E l.p l.e l.t) 238/\ah v (w+1) (aP m d n) 41/\ah v (w+1+1) #[x] 39/\ah v (w+1+1+1) mE 238) ⟨ρE,ρB,ρB,ρB,ρB⟩ ?_;rintro v2 ⟨gv2,Py,Qv,Qy,Zh⟩;have qL2:=af Py;have qC2:=af Qv;have qN2:=af Qy;have qR2:=af Zh;refine Ws 9 (mw ?_)
 repeat (go_big_quiet_step ((first
   | (go_at_call 202;(with_reducible exact bT (jE l.D s1 s1 l m d n x q (w+1) (w+1+1) w _ hm hd hn hx (ah.below Qv (ZW _ _ _) Qv.size) (ah.below Qy (ZW _ _ _) Qy.size) (ah.below Py (ZW _ _ _) Py.size) hp Hq.out Hs1.out o1)))
   | (go_at_call 202;(with_reducible exact bT (jD l.E s2 s2 l m d n x q (w+1) (w+1+1) w _ hm hd hn hx (ah.below Qv (ZW _ _ _) Qv.size) (ah.below Qy (ZW _ _ _) Qy.size) (ah.below Py (ZW _ _ _) Py.size) hp Hq.out Hs2.out o2))))))
 refine wpQuiet_nil ?_;intro _ NG;obtain⟨pq,KN⟩:=NG;subst KN;have IW:=ZW v2 pq.d pq.os;generalize Sort.grow (redrawn v2 pq.d) pq.os=w2 at*;have L2:ah w2 w (dB false l.D l.E l.p l.e l.t) 238:=ah.below Py IW Py.size;refine δJ ?_;clear IW gv2 Py qL2 Qv qC2 Qy qN2 Zh qR2;intro C2 N2 R2 g2 Jr Rr;refine gK 236 (.tmp 19) (.tmp 14) w 1 (dB false l.D l.E l.p l.e l.t) (fW s1) (dB false s1 l.E l.p l.e l.t) 238 ρr ρr ρr ρr ρB ρp ρh ρh σg ?_;intro w3 S3 kB3 kO3 KG;have g3:Below w w w3:=kB3 _ _ ρb ρE;have R3:=kO3 (w+1+1+1) mE 238 ρb ρB;replace Rr:=R3.r;go_wp2_with (refine gK 236 (.tmp 20) (.tmp 18) w 10 (dB false s1 l.E l.p l.e l.t) (fW s2) (dB false s1 s2 l.p l.e l.t) 238 ρr ρr ρr ρr ρB ρp ρh ρh σg ?_);intro w4 S4 kB4 kO4 hs4;have g4:Below w w w4:=kB4 _ _ ρb ρE;have R4:=kO4 (w+1+1+1) mE 238 ρb ρB;have Ss:=θ2 R4.r S4.r;go_wp2_with (refine eI 238 (.tmp 4) w (dB true s1 s2 l.p l.e l.t) 238 _ ρr ρr ρr ρB Tryz.underlying238 rfl ρh ?_);refine(fd ⟨true,s1,s2,l.p,l.e,l.t⟩ r h _ ok hh Hr.out).mono ?_;rintro e w6 ⟨rfl,PC⟩;have R6:ah w6 (w+1+1+1) mE 238:=Zv PC;have g6:=Tg w PC;have hz6:=PC.size;(try simp at hz6);clear PC;clear Ss;replace Rr:=R6.r;go_wp2_with (first|(refine dZ 238 (.tmp 8) (.tmp 24) (w+1+1+1) mE (dB r.has r.D r.E r.p r.e r.t) 238 ρr ρr ρr ρr ρB rfl ρh σg ?_;intro v Bv kB kO hs;have gv:Below w w v:=kB _ _ ρb ρE;clear kB kO hs));refine ZO (v:=φ (dB r.has r.D r.E r.p r.e r.t)) ?_ ?_ ?_
 ·exact ηC
 ·rfl
 ·exact⟨rfl,gv⟩
theorem vU (l r:LF)(m d n x h q:Int)(s1 s2 u1 u2:RN)(w:ϖ)(hm:aq m)(hd:aq d)(hn:aq n)(hx:0<=x/\x<=Mc)(hl:l.ok)(hh:-Mc<=h/\h<=Mb)(hq:l.p*65536=q)(Ju:RN.start m d n x q=s1)(o1:s1.ok)(Ja:RN.ready m d n x q=s2)(o2:s2.ok)(hu1:RN.meet l.D s1=u1)(v1:u1.ok)(hu2:RN.meet l.E s2=u2)(v2:u2.ok)(hr:LF.headed ⟨true,u1,u2,l.p,l.e,l.t⟩ h=r):
  CB 154 #[φ (dB true l.D l.E l.p l.e l.t),φ (aP m d n),x,ι ε h] w (eF r):=by
 have hp:0<=l.p/\l.p<=Ma:=hl.2.2;have okD:l.D.ok:=hl.1;have okE:l.E.ok:=hl.2.1;have J2:ai q:=σa;have ok:LF.ok ⟨true,u1,u2,l.p,l.e,l.t⟩:=⟨v1,v2,hp⟩;have Hq:=ag hq;have Hs1:=ag Ju;have Hs2:=ag Ja;have Hr:=ag hr;clear hq Ju Ja hr;have Hu1:=ag hu1;have Hu2:=ag hu2;clear hu1 hu2;unfold CB;go_in;go_upto_region 2 with (fail);refine aI (λv=>Below w w v/\ah v w (dB true l.D l.E l.p l.e l.t) 238/\ah v (w+1) (aP m d n) 41/\ah v (w+1+1) #[x] 39/\ah v (w+1+1+1) mE 238) ⟨ρE,ρB,ρB,ρB,ρB⟩ ?_;rintro v2 ⟨gv2,Py,Qv,Qy,Zh⟩;have qL2:=af Py;have qC2:=af Qv;have qN2:=af Qy;have qR2:=af Zh;refine Ws 9 (mw ?_)
 repeat (go_big_quiet_step ((first
   | (go_at_call 202;(with_reducible exact bT (kD l.D s1 u1 l m d n x q (w+1) (w+1+1) w _ hm hd hn hx (ah.below Qv (ZW _ _ _) Qv.size) (ah.below Qy (ZW _ _ _) Qy.size) (ah.below Py (ZW _ _ _) Py.size) hp Hq.out Hs1.out o1 okD Hu1.out)))
   | (go_at_call 202;(with_reducible exact bT (kC l.E s2 u2 l m d n x q (w+1) (w+1+1) w _ hm hd hn hx (ah.below Qv (ZW _ _ _) Qv.size) (ah.below Qy (ZW _ _ _) Qy.size) (ah.below Py (ZW _ _ _) Py.size) hp Hq.out Hs2.out o2 okE Hu2.out))))))
 refine wpQuiet_nil ?_;intro _ NG;obtain⟨pq,KN⟩:=NG;subst KN;have IW:=ZW v2 pq.d pq.os;generalize Sort.grow (redrawn v2 pq.d) pq.os=w2 at*;have L2:ah w2 w (dB true l.D l.E l.p l.e l.t) 238:=ah.below Py IW Py.size;refine δJ ?_;clear IW gv2 Py qL2 Qv qC2 Qy qN2 Zh qR2;intro C2 N2 R2 g2 Jr Rr;refine gK 236 (.tmp 19) (.tmp 14) w 1 (dB true l.D l.E l.p l.e l.t) (fW u1) (dB true u1 l.E l.p l.e l.t) 238 ρr ρr ρr ρr ρB ρp ρh ρh σg ?_;intro w3 S3 kB3 kO3 KG;have g3:Below w w w3:=kB3 _ _ ρb ρE;have R3:=kO3 (w+1+1+1) mE 238 ρb ρB;replace Rr:=R3.r;go_wp2_with (refine gK 236 (.tmp 20) (.tmp 18) w 10 (dB true u1 l.E l.p l.e l.t) (fW u2) (dB true u1 u2 l.p l.e l.t) 238 ρr ρr ρr ρr ρB ρp ρh ρh σg ?_);intro w4 S4 kB4 kO4 hs4;have g4:Below w w w4:=kB4 _ _ ρb ρE;have R4:=kO4 (w+1+1+1) mE 238 ρb ρB;have Ss:=θ2 R4.r S4.r;go_wp2_with (refine eI 238 (.tmp 4) w (dB true u1 u2 l.p l.e l.t) 238 _ ρr ρr ρr ρB Tryz.underlying238 rfl ρh ?_);refine(fd ⟨true,u1,u2,l.p,l.e,l.t⟩ r h _ ok hh Hr.out).mono ?_;rintro e w6 ⟨rfl,PC⟩;have R6:ah w6 (w+1+1+1) mE 238:=Zv PC;have g6:=Tg w PC;have hz6:=PC.size;(try simp at hz6);clear PC;clear Ss;replace Rr:=R6.r;go_wp2_with (first|(refine dZ 238 (.tmp 8) (.tmp 24) (w+1+1+1) mE (dB r.has r.D r.E r.p r.e r.t) 238 ρr ρr ρr ρr ρB rfl ρh σg ?_;intro v Bv kB kO hs;have gv:Below w w v:=kB _ _ ρb ρE;clear kB kO hs));refine ZO (v:=φ (dB r.has r.D r.E r.p r.e r.t)) ?_ ?_ ?_
 ·exact ηC
 ·rfl
 ·exact⟨rfl,gv⟩
theorem yB (l r:LF)(m d n x h:Int)(w:ϖ)(hm:aq m)(hd:aq d)(hn:aq n)(hx:0<=x/\x<=Mc)(hl:l.ok)(hh:-Mc<=h/\h<=Mb)(hr:(l.woke m d n x).headed h=r):
  CB 154 #[eF l,φ (aP m d n),x,ι ε h] w (eF r):=by
 have os:=RN.start_ok (m:=m) (d:=d) (n:=n) (x:=x) (y:=l.p*65536) hm hd.1 hn hx (iS hl.2.2);have or':=RN.ready_ok (m:=m) (d:=d) (n:=n) (x:=x) (y:=l.p*65536) hm hn ρa (iS hl.2.2);rcases l with ⟨b,D,E,p,e0,t0⟩;unfold LF.woke at hr;rcases b with _|_
 ·exact tB ⟨false,D,E,p,e0,t0⟩ r m d n x h _ _ _ ⟨⟨0,0,0⟩,⟨0,0,0⟩,false⟩ ⟨⟨0,0,0⟩,⟨0,0,0⟩,false⟩ w hm hd hn hx hl hh rfl rfl os rfl or' hr
 ·exact vU ⟨true,D,E,p,e0,t0⟩ r m d n x h _ _ _ _ _ w hm hd hn hx hl hh rfl rfl os rfl or' rfl (RN.meet_ok hl.1 os) rfl (RN.meet_ok hl.2.1 or') hr
end Go.Proofs.YtfdlemkplejdnaaGreat
