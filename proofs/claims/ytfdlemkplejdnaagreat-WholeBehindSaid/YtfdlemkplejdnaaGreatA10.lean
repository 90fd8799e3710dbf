/- WholeBehind, part 10. Conditions: none. -/
import Derived.Test.YtfdlemkplejdnaaGreatA7
namespace Go.Proofs.YtfdlemkplejdnaaGreat
open Go.RowKit Go.Sort
open Value renaming int->ι,pointer->ψ,slice->ζ,tuple->χ,agg->φ,map->μ,bool->β
open IntKind renaming u64->υ,i64->ε,u16->ω
open Ending renaming returned->ϰ
open Go.Proofs.Tryz renaming prog->Ψ,underlying3->Θ,underlying147->Δ,underlying152->Γ,underlying202->Φ,underlying39->Ξ,underlying207->Ω
open Go renaming World->ϖ,Value->ϗ
set_option linter.unusedVariables false
set_option linter.unusedSimpArgs false
set_option maxHeartbeats 8000000
set_option maxRecDepth 100000
structure LF where
 (has:Bool)
 (D E:RN)
 (p e t:Int)
abbrev eF (l:LF):ϗ:=φ #[β l.has,ι υ l.D.f.X,ι υ (hi (l.D.f.Y)),ι υ (lo (l.D.f.Y)),ι υ l.D.f.M,ι υ l.D.t.X,ι υ (hi (l.D.t.Y)),ι υ (lo (l.D.t.Y)),ι υ l.D.t.M,β l.D.b,ι υ l.E.f.X,ι υ (hi (l.E.f.Y)),ι υ (lo (l.E.f.Y)),ι υ l.E.f.M,ι υ l.E.t.X,ι υ (hi (l.E.t.Y)),ι υ (lo (l.E.t.Y)),ι υ l.E.t.M,β l.E.b,ι υ l.p,ι υ l.e,ι υ l.t]
theorem nA (p q:Int)(w:ϖ)(hp:aq p)(hq:p*65536=q):
  CB 203 #[p] w (wv q):=by
 have Hq:=ag hq;clear hq;unfold CB;go_in;go_wp2_with fail;refine(gk p 65536 q _ hp ρa Hq.out).mono ?_;rintro e w1 ⟨rfl,IG⟩;have R1:ah w1 w #[Ky,Ky] 232:=Zv IG;refine η2 ?_;intro g1 Jf;clear IG;have Rr:=R1.r;go_wp2;exact Eb w (mi q) 232 rfl (λ_ cv=>(by simp[results,Tryz.results203,go_sem,cv]))
theorem uO (l:LF)(h:Int)(w:ϖ)(hh:¬0<h):
  CB 207 #[eF l,ι ε h] w (φ (dB l.has l.D l.E l.p Mc Mc)):=by
 have d1:decide (0<h)=false:=ZF hh;unfold CB;go_in;go_upto_region 5 with (fail);refine δS ?_;rintro w1 ⟨g1,A1,R1⟩;have Jf:=g1.size;have Rr:=θ2 A1.r R1.r;go_wp2_with (first|(refine eI 238 (.tmp 2) w (dB l.has l.D l.E l.p Mc Mc) 238 _ ρr ρr ρr ρB Tryz.underlying238 rfl ρh ?_)|(refine dZ 238 (.tmp 4) (.tmp 26) (w+1) mE (dB l.has l.D l.E l.p Mc Mc) 238 ρr ρr ρr ρr ρB rfl ρh σg ?_;intro v Bv kB kO hs;have gv:Below w w v:=kB _ _ ρb ρE;clear kB kO hs));refine ZO (v:=φ (dB l.has l.D l.E l.p Mc Mc)) ?_ ?_ ?_
 ·exact bJ (w+1) (dB l.has l.D l.E l.p Mc Mc) 238 _ _ _ Tryz.results207 ρr Bv Tryz.underlying238 rfl ρh
 ·rfl
 ·exact⟨rfl,gv⟩
theorem r9 (l:LF)(h p1 q p2 ev tv:Int)(w:ϖ)(hh:0<h)(hh':h<=Mb)(oD:l.D.ok)(oE:l.E.ok)(hp:aq l.p)(h1:l.p*65536=p1)(i1:ai p1)(hq:IntKind.u64.wrap (l.p+h)=q)(q0:aq q)(h2:q*65536=p2)(i2:ai p2)(h3:l.E.reach p1=ev)(h4:l.D.reach p2=tv):
  CB 207 #[eF l,ι ε h] w (φ (dB l.has l.D l.E l.p ev tv)):=by
 have d1:decide (0<h)=true:=ZT hh;have hwh:IntKind.u64.wrap h=h:=ZZ _ ⟨by omega,by omega⟩;have H1:=ag h1;have H2:=ag h2;have H3:=ag h3;have H4:=ag h4;clear h1 h2 h3 h4;unfold CB;go_in;go_upto_region 3 with (fail);refine δS ?_;rintro w1 ⟨g1,A1,R1⟩;have Jf:=g1.size;have Rr:=θ2 A1.r R1.r;go_region_held3 (λv=>v.cell? ⟨w,10,none⟩=some (ι υ l.E.f.X)/\v.cell? ⟨w,11,none⟩=some (ι υ (hi (l.E.f.Y)))/\v.cell? ⟨w,12,none⟩=some (ι υ (lo (l.E.f.Y)))/\v.cell? ⟨w,13,none⟩=some (ι υ l.E.f.M)/\v.cell? ⟨w,14,none⟩=some (ι υ l.E.t.X)/\v.cell? ⟨w,15,none⟩=some (ι υ (hi (l.E.t.Y)))/\v.cell? ⟨w,16,none⟩=some (ι υ (lo (l.E.t.Y)))/\v.cell? ⟨w,17,none⟩=some (ι υ l.E.t.M)/\v.cell? ⟨w,18,none⟩=some (β l.E.b)/\v.cell? ⟨w,19,none⟩=some (ι υ l.p)/\w.heap.size<v/\Below w w v)
  (first
   | (refine⟨?_,?_,?_,?_,?_,?_,?_,?_,?_,?_,?_,?_⟩<;>first | (with_reducible assumption) | ((repeat' (first | (with_reducible (first | exact Below.refl _ _ | assumption | refine below_drewN ?_ _ | refine Below.drew ?_ | refine Below.alloc ?_ ?_ _ | refine Below.setCell ?_ ?_ _)) | go_size));done) | omega | (go_simp;done) | (simp;done)))
  (first
   | (go_at_call 203;(with_reducible refine(nA l.p p1 _ hp H1.out).mono ?_);refine bo ?_;intro w' f' IZ IY;have IP:=A1.tr f';have rA:=IP.r;have Ji:=R1.tr f';have rR:=Ji.r;have Ly:w'.cell? ⟨w,10,none⟩=some (ι υ l.E.f.X):=((f'.cell ρb).trans ρe);have J2:w'.cell? ⟨w,11,none⟩=some (ι υ (hi (l.E.f.Y))):=((f'.cell ρb).trans ρe);have Kk:w'.cell? ⟨w,12,none⟩=some (ι υ (lo (l.E.f.Y))):=((f'.cell ρb).trans ρe);have hq3:w'.cell? ⟨w,13,none⟩=some (ι υ l.E.f.M):=((f'.cell ρb).trans ρe);have hq4:w'.cell? ⟨w,14,none⟩=some (ι υ l.E.t.X):=((f'.cell ρb).trans ρe);have hq5:w'.cell? ⟨w,15,none⟩=some (ι υ (hi (l.E.t.Y))):=((f'.cell ρb).trans ρe);have hq6:w'.cell? ⟨w,16,none⟩=some (ι υ (lo (l.E.t.Y))):=((f'.cell ρb).trans ρe);have hq7:w'.cell? ⟨w,17,none⟩=some (ι υ l.E.t.M):=((f'.cell ρb).trans ρe);have hq8:w'.cell? ⟨w,18,none⟩=some (β l.E.b):=((f'.cell ρb).trans ρe);have hq9:w'.cell? ⟨w,19,none⟩=some (ι υ l.p):=((f'.cell ρb).trans ρe);clear f')
   | (go_at_call 218;(with_reducible refine(ir l.E p1 ev _ oE i1 H3.out).mono ?_);refine bo ?_;intro w' f' IZ IY;have IP:=A1.tr f';have rA:=IP.r;have Ji:=R1.tr f';have rR:=Ji.r;have Ly:w'.cell? ⟨w,10,none⟩=some (ι υ l.E.f.X):=((f'.cell ρb).trans ρe);have J2:w'.cell? ⟨w,11,none⟩=some (ι υ (hi (l.E.f.Y))):=((f'.cell ρb).trans ρe);have Kk:w'.cell? ⟨w,12,none⟩=some (ι υ (lo (l.E.f.Y))):=((f'.cell ρb).trans ρe);have hq3:w'.cell? ⟨w,13,none⟩=some (ι υ l.E.f.M):=((f'.cell ρb).trans ρe);have hq4:w'.cell? ⟨w,14,none⟩=some (ι υ l.E.t.X):=((f'.cell ρb).trans ρe);have hq5:w'.cell? ⟨w,15,none⟩=some (ι υ (hi (l.E.t.Y))):=((f'.cell ρb).trans ρe);have hq6:w'.cell? ⟨w,16,none⟩=some (ι υ (lo (l.E.t.Y))):=((f'.cell ρb).trans ρe);have hq7:w'.cell? ⟨w,17,none⟩=some (ι υ l.E.t.M):=((f'.cell ρb).trans ρe);have hq8:w'.cell? ⟨w,18,none⟩=some (β l.E.b):=((f'.cell ρb).trans ρe);have hq9:w'.cell? ⟨w,19,none⟩=some (ι υ l.p):=((f'.cell ρb).trans ρe);clear f'))
 all_goals
  go_upto_region 4 with (fail);refine aI (λv=>Below w w v/\ah v w (dB l.has l.D l.E l.p ev Mc) 238/\ah v (w+1) mE 238) ⟨ρE,ρB,ρB⟩ ?_;rintro w2 ⟨g2,A2,R2⟩;have Jr:=g2.size;replace Rr:=θ2 A2.r R2.r;go_region_held3 (λv=>v.cell? ⟨w,1,none⟩=some (ι υ l.D.f.X)/\v.cell? ⟨w,2,none⟩=some (ι υ (hi (l.D.f.Y)))/\v.cell? ⟨w,3,none⟩=some (ι υ (lo (l.D.f.Y)))/\v.cell? ⟨w,4,none⟩=some (ι υ l.D.f.M)/\v.cell? ⟨w,5,none⟩=some (ι υ l.D.t.X)/\v.cell? ⟨w,6,none⟩=some (ι υ (hi (l.D.t.Y)))/\v.cell? ⟨w,7,none⟩=some (ι υ (lo (l.D.t.Y)))/\v.cell? ⟨w,8,none⟩=some (ι υ l.D.t.M)/\v.cell? ⟨w,9,none⟩=some (β l.D.b)/\v.cell? ⟨w,19,none⟩=some (ι υ l.p)/\w.heap.size<v/\Below w w v)
   (first
    | (refine⟨?_,?_,?_,?_,?_,?_,?_,?_,?_,?_,?_,?_⟩<;>first | (with_reducible assumption) | ((repeat' (first | (with_reducible (first | exact Below.refl _ _ | assumption | refine below_drewN ?_ _ | refine Below.drew ?_ | refine Below.alloc ?_ ?_ _ | refine Below.setCell ?_ ?_ _)) | go_size));done) | omega | (go_simp;done) | (simp;done)))
   (first
    | (go_at_call 203;(with_reducible refine(nA q p2 _ q0 H2.out).mono ?_);refine bo ?_;intro w' f' IZ IY;have IP:=A2.tr f';have rA:=IP.r;have Ji:=R2.tr f';have rR:=Ji.r;have Ly:w'.cell? ⟨w,1,none⟩=some (ι υ l.D.f.X):=((f'.cell ρb).trans ρe);have J2:w'.cell? ⟨w,2,none⟩=some (ι υ (hi (l.D.f.Y))):=((f'.cell ρb).trans ρe);have Kk:w'.cell? ⟨w,3,none⟩=some (ι υ (lo (l.D.f.Y))):=((f'.cell ρb).trans ρe);have hq3:w'.cell? ⟨w,4,none⟩=some (ι υ l.D.f.M):=((f'.cell ρb).trans ρe);have hq4:w'.cell? ⟨w,5,none⟩=some (ι υ l.D.t.X):=((f'.cell ρb).trans ρe);have hq5:w'.cell? ⟨w,6,none⟩=some (ι υ (hi (l.D.t.Y))):=((f'.cell ρb).trans ρe);have hq6:w'.cell? ⟨w,7,none⟩=some (ι υ (lo (l.D.t.Y))):=((f'.cell ρb).trans ρe);have hq7:w'.cell? ⟨w,8,none⟩=some (ι υ l.D.t.M):=((f'.cell ρb).trans ρe);have hq8:w'.cell? ⟨w,9,none⟩=some (β l.D.b):=((f'.cell ρb).trans ρe);have hq9:w'.cell? ⟨w,19,none⟩=some (ι υ l.p):=((f'.cell ρb).trans ρe);clear f')
    | (go_at_call 218;(with_reducible refine(ir l.D p2 tv _ oD i2 H4.out).mono ?_);refine bo ?_;intro w' f' IZ IY;have IP:=A2.tr f';have rA:=IP.r;have Ji:=R2.tr f';have rR:=Ji.r;have Ly:w'.cell? ⟨w,1,none⟩=some (ι υ l.D.f.X):=((f'.cell ρb).trans ρe);have J2:w'.cell? ⟨w,2,none⟩=some (ι υ (hi (l.D.f.Y))):=((f'.cell ρb).trans ρe);have Kk:w'.cell? ⟨w,3,none⟩=some (ι υ (lo (l.D.f.Y))):=((f'.cell ρb).trans ρe);have hq3:w'.cell? ⟨w,4,none⟩=some (ι υ l.D.f.M):=((f'.cell ρb).trans ρe);have hq4:w'.cell? ⟨w,5,none⟩=some (ι υ l.D.t.X):=((f'.cell ρb).trans ρe);have hq5:w'.cell? ⟨w,6,none⟩=some (ι υ (hi (l.D.t.Y))):=((f'.cell ρb).trans ρe);have hq6:w'.cell? ⟨w,7,none⟩=some (ι υ (lo (l.D.t.Y))):=((f'.cell ρb).trans ρe);have hq7:w'.cell? ⟨w,8,none⟩=some (ι υ l.D.t.M):=((f'.cell ρb).trans ρe);have hq8:w'.cell? ⟨w,9,none⟩=some (β l.D.b):=((f'.cell ρb).trans ρe);have hq9:w'.cell? ⟨w,19,none⟩=some (ι υ l.p):=((f'.cell ρb).trans ρe);clear f'))
  all_goals
   go_upto_region 5 with (fail);refine aI (λv=>Below w w v/\ah v w (dB l.has l.D l.E l.p ev tv) 238/\ah v (w+1) mE 238) ⟨ρE,ρB,ρB⟩ ?_;rintro w3 ⟨g3,A3,R3⟩;have LD:=g3.size;replace Rr:=θ2 A3.r R3.r;go_wp2_with (first|(refine eI 238 (.tmp 2) w (dB l.has l.D l.E l.p ev tv) 238 _ ρr ρr ρr ρB Tryz.underlying238 rfl ρh ?_)|(refine dZ 238 (.tmp 4) (.tmp 26) (w+1) mE (dB l.has l.D l.E l.p ev tv) 238 ρr ρr ρr ρr ρB rfl ρh σg ?_;intro v Bv kB kO hs;have gv:Below w w v:=kB _ _ ρb ρE;clear kB kO hs));refine ZO (v:=φ (dB l.has l.D l.E l.p ev tv)) ?_ ?_ ?_
   ·exact bJ (w+1) (dB l.has l.D l.E l.p ev tv) 238 _ _ _ Tryz.results207 ρr Bv Tryz.underlying238 rfl ρh
   ·rfl
   ·exact⟨rfl,gv⟩
theorem ro (x:Int):0<=IntKind.u64.wrap x/\IntKind.u64.wrap x<=Ma:=by rw[IntKind.wrap_u64];omega
def LF.ok (l:LF):Prop:=l.D.ok/\l.E.ok/\(0<=l.p/\l.p<=Ma)
def LF.headed (l:LF)(h:Int):LF:=if 0<h then ⟨l.has,l.D,l.E,l.p,l.E.reach (l.p*65536),l.D.reach (IntKind.u64.wrap (l.p+h)*65536)⟩ else ⟨l.has,l.D,l.E,l.p,9223372036854775808,9223372036854775808⟩
def LF.took (l:LF)(s h:Int):LF:=LF.headed ⟨l.has,l.D,l.E,IntKind.u64.wrap (l.p+max s 0),l.e,l.t⟩ h
def LF.woke (l:LF)(m d n x:Int):LF:=⟨true,if l.has then RN.meet l.D (RN.start m d n x (l.p*65536)) else RN.start m d n x (l.p*65536),if l.has then RN.meet l.E (RN.ready m d n x (l.p*65536)) else RN.ready m d n x (l.p*65536),l.p,l.e,l.t⟩
theorem iS {p:Int} (h:aq p):ai (p*65536):=by unfold ai;omega
theorem fd (l r:LF)(h:Int)(w:ϖ)(hl:l.ok)(hh:-Mc<=h/\h<=Mb)(hr:l.headed h=r):
  CB 207 #[eF l,ι ε h] w (eF r):=by
 subst hr;unfold LF.headed;by_cases h0:0<h
 ·rw[ZP h0];exact r9 l h _ _ _ _ _ w h0 hh.2 hl.1 hl.2.1 hl.2.2 rfl (iS hl.2.2) rfl (ro _) rfl (iS (ro _)) rfl rfl
 ·rw[ZI h0];exact uO l h w h0
theorem sF (l r:LF)(h:Int)(w:ϖ)(hl:l.ok)(hh:-Mc<=h/\h<=Mb)(hr:l.headed h=r):
  CB 221 #[eF l,ι ε h] w (eF r):=by
 have Hr:=ag hr;clear hr;unfold CB;go_in;go_upto_region 1 with (fail);refine δ3 ?_;rintro w1 ⟨g1,A1,R1⟩;have Jf:=g1.size;have Rr:=θ2 A1.r R1.r;go_wp2_with (refine eI 238 (.tmp 2) w (dB l.has l.D l.E l.p l.e l.t) 238 _ ρr ρr ρr ρB Tryz.underlying238 rfl ρh ?_);refine(fd l r h _ hl hh Hr.out).mono ?_;rintro e w2 ⟨rfl,IW⟩;have R2:=R1.tr IW;refine η9 ?_;intro g2 Jr;clear IW;replace Rr:=R2.r;go_wp2_with (first|(refine dZ 238 (.tmp 4) (.tmp 7) (w+1) mE (dB r.has r.D r.E r.p r.e r.t) 238 ρr ρr ρr ρr ρB rfl ρh σg ?_;intro v Bv kB kO hs;have gv:Below w w v:=kB _ _ ρb ρE;clear kB kO hs));refine ZO (v:=φ (dB r.has r.D r.E r.p r.e r.t)) ?_ ?_ ?_
 ·exact bJ (w+1) (dB r.has r.D r.E r.p r.e r.t) 238 _ _ _ Tryz.results221 ρr Bv Tryz.underlying238 rfl ρh
 ·rfl
 ·exact⟨rfl,gv⟩
theorem yi (l r:LF)(s h q:Int)(w:ϖ)(hl:l.ok)(hss:-Mc<=s/\s<=Mb)(hs:0<s)(hh:-Mc<=h/\h<=Mb)(hq:IntKind.u64.wrap (l.p+s)=q)(q0:aq q)(hr:LF.headed ⟨l.has,l.D,l.E,q,l.e,l.t⟩ h=r):
  CB 219 #[eF l,ι ε s,ι ε h] w (eF r):=by
 have Hr:=ag hr;clear hr;have hp:0<=l.p/\l.p<=Ma:=hl.2.2;have ok:LF.ok ⟨l.has,l.D,l.E,q,l.e,l.t⟩:=⟨hl.1,hl.2.1,q0⟩;obtain⟨mx,Yc⟩:=Nq (max s 0);have d1:¬s<0:=ρa;have hw:IntKind.u64.wrap s=s:=ZZ _ ⟨by omega,by omega⟩;unfold CB;go_in;go_upto_region 2 with (fail)
 all_goals
  refine aI (λv=>Below w w v/\ah v w (dB l.has l.D l.E q l.e l.t) 238/\ah v (w+1) mE 238) ⟨ρE,ρB,ρB⟩ ?_;rintro w1 ⟨g1,A1,R1⟩;have Jf:=g1.size;have Rr:=θ2 A1.r R1.r;go_wp2_with (refine eI 238 (.tmp 3) w (dB l.has l.D l.E q l.e l.t) 238 _ ρr ρr ρr ρB Tryz.underlying238 rfl ρh ?_);refine(fd ⟨l.has,l.D,l.E,q,l.e,l.t⟩ r h _ ok hh Hr.out).mono ?_;rintro e w2 ⟨rfl,IW⟩;have R2:=R1.tr IW;refine η9 ?_;intro g2 Jr;clear IW;replace Rr:=R2.r;go_wp2_with (first|(refine dZ 238 (.tmp 6) (.tmp 16) (w+1) mE (dB r.has r.D r.E r.p r.e r.t) 238 ρr ρr ρr ρr ρB rfl ρh σg ?_;intro v Bv kB kO hs;have gv:Below w w v:=kB _ _ ρb ρE;clear kB kO hs));refine ZO (v:=φ (dB r.has r.D r.E r.p r.e r.t)) ?_ ?_ ?_
  ·exact ηJ
  ·rfl
  ·exact⟨rfl,gv⟩
theorem yh (l r:LF)(s h q:Int)(w:ϖ)(hl:l.ok)(hss:-Mc<=s/\s<=Mb)(hs:s<=0)(hh:-Mc<=h/\h<=Mb)(hq:IntKind.u64.wrap (l.p+0)=q)(q0:aq q)(hr:LF.headed ⟨l.has,l.D,l.E,q,l.e,l.t⟩ h=r):
  CB 219 #[eF l,ι ε s,ι ε h] w (eF r):=by
 rw[Int.add_zero,ZZ _ ⟨hl.2.2.1,hl.2.2.2⟩] at hq;subst hq;have Hr:=ag hr;clear hr;have hp:0<=l.p/\l.p<=Ma:=hl.2.2;have ok:LF.ok ⟨l.has,l.D,l.E,l.p,l.e,l.t⟩:=⟨hl.1,hl.2.1,hp⟩;obtain⟨mx,Yc⟩:=Nq (max s 0);have hmx2:(if s<0 then (0:Int) else s)=0:=by split<;>omega
 unfold CB;go_in;go_upto_region 2 with (fail)
 all_goals
  refine δ3 ?_;rintro w1 ⟨g1,A1,R1⟩;have Jf:=g1.size;have Rr:=θ2 A1.r R1.r;go_wp2_with (refine eI 238 (.tmp 3) w (dB l.has l.D l.E l.p l.e l.t) 238 _ ρr ρr ρr ρB Tryz.underlying238 rfl ρh ?_);refine(fd ⟨l.has,l.D,l.E,l.p,l.e,l.t⟩ r h _ ok hh Hr.out).mono ?_;rintro e w2 ⟨rfl,IW⟩;have R2:=R1.tr IW;refine η9 ?_;intro g2 Jr;clear IW;replace Rr:=R2.r;go_wp2_with (first|(refine dZ 238 (.tmp 6) (.tmp 16) (w+1) mE (dB r.has r.D r.E r.p r.e r.t) 238 ρr ρr ρr ρr ρB rfl ρh σg ?_;intro v Bv kB kO hs;have gv:Below w w v:=kB _ _ ρb ρE;clear kB kO hs));refine ZO (v:=φ (dB r.has r.D r.E r.p r.e r.t)) ?_ ?_ ?_
  ·exact ηJ
  ·rfl
  ·exact⟨rfl,gv⟩
theorem yg (l r:LF)(s h:Int)(w:ϖ)(hl:l.ok)(hs:-Mc<=s/\s<=Mb)(hh:-Mc<=h/\h<=Mb)(hr:l.took s h=r):
  CB 219 #[eF l,ι ε s,ι ε h] w (eF r):=by
 unfold LF.took at hr;by_cases h0:0<s
 ·rw[show max s 0=s by omega] at hr;exact yi l r s h _ w hl hs h0 hh rfl (ro _) hr
 ·rw[show max s 0=0 by omega] at hr;exact yh l r s h _ w hl hs ρa hh rfl (ro _) hr
def LN.time (l:LN)(W:Int):Int:=max (l.reach W) l.X
def RN.time (r:RN)(p:Int):Int:=if r.b then max (max (r.reach (p*65536)) r.t.X) r.f.X else max (r.reach (p*65536)) r.t.X
theorem RN.time_eq (r:RN)(p:Int):r.time p=if r.b then max (r.f.time (p*65536)) (r.t.time (p*65536)) else r.t.time (p*65536):=by
 unfold RN.time RN.reach LN.time;rcases r.b with _|_
 ·simp
 ·simp only[if_true];omega
theorem RN.time_rng {r:RN} (h:r.ok)(p:Int):0<=r.time p/\r.time p<=Ma:=by have h1:=RN.reach_rng h (p*65536);have h2:=h.1.1;have h3:=h.2.1;unfold RN.time;split<;>omega
theorem LN.time_new {s:LN} (h:s.small) {W:Int} (h0:0<=W)(hW:W<=s.Y)(hX:s.X<Mc):s.time W=s.X:=by have h1:=LN.reach_iff (x:=s.X) h h0 h.2.1 hX;rw[LN.at_lo (ZJ _)] at h1;have:=h1.2 hW;unfold LN.time;omega
def GZ (m d n:Int):Prop:=kd m d n=2\/kd m d n=3
theorem GZ.not4 {m d n:Int} (h:GZ m d n):kd m d n≠4:=by rcases h with h|h<;>omega
theorem uk {m d n x y:Int} (h:kd m d n=2):RN.start m d n x y=⟨LN.zero,⟨x,y,n⟩,false⟩:=by unfold RN.start;rw[ZI ρa];unfold RN.ready;rw[ZP (.inl h)]
theorem LN.time_steps {l:LN} (h:l.small) {W:Int} (h0:0<=l.Y)(hW:l.Y<=W)(hT:l.time W<Mc)(hM:0<l.M):
  l.X<=l.time W/\W<=l.Y+l.M*(l.time W - l.X)/\l.Y+l.M*(l.time W - l.X)<W+l.M:=by
 have hX:l.X<=l.time W:=by unfold LN.time;omega
 have hR:l.reach W<=l.time W:=by unfold LN.time;omega
 have hX0:=h.2.1;have e:=LN.at_from h hX ρa;have i1:=(LN.reach_iff (x:=l.time W) h ρa ρa hT).1 hR;refine⟨hX,by rw[<- e];exact i1,?_⟩;by_cases hx:l.time W=l.X
 ·rw[hx,show l.X - l.X=0 by omega,Int.mul_zero];omega
 ·have hr:l.time W=l.reach W:=by unfold LN.time at*;omega
  have i2:=LN.reach_iff (x:=l.time W - 1) h (show 0<=W by omega) ρa ρa;have e2:=LN.at_from h (x:=l.time W - 1) ρa ρa;have IJ:l.at (l.time W - 1)<W:=by
   by_cases hc:W<=l.at (l.time W - 1)
   ·have:=i2.2 hc;omega
   ·omega
  rw[e2,show l.time W - 1 - l.X=(l.time W - l.X) - 1 by omega,Int.mul_sub,Int.mul_one] at IJ;omega
theorem LN.time_lt {l:LN} (h:l.small) {W:Int} (h0:0<=W)(hM:0<l.M)(hX:l.X<=4611686018427387904)(hW:W<=l.Y+288230376151711744):l.time W<=4899916394579099648:=by have i:=LN.reach_iff (x:=4899916394579099648) h h0 ρa ρa;have e:=LN.at_from h (x:=4899916394579099648) ρa ρa;have hm:1*(4899916394579099648 - l.X)<=l.M*(4899916394579099648 - l.X):=Int.mul_le_mul_of_nonneg_right ρa ρa;have:=i.2 (by rw[e];omega);unfold LN.time;omega
theorem Ep (a b m:Int)(B:Nat)(t:TypeId)(w:ϖ)(hB:ah w B #[a,b] t)(ha:aq a)(hb:aq b)(hm:max a b=m):Calls Ψ 256 #[ζ B 2 2] w λe w'=>e=ϰ m/\w=w':=by
 have cB:=hB.cell;have zB:=hB.size;have Hm:=ag hm;clear hm;go_in;go_wp2;refine wp_loop_rounds 3 ?_;rw[cV];go_wp2
 all_goals
  rw[cV];go_wp2
  all_goals
   rw[cV];go_wp2
   all_goals
    go_ret;exact⟨dP (by have:=Hm.out;omega),rfl⟩
theorem Es (a b c m:Int)(B:Nat)(t:TypeId)(w:ϖ)(hB:ah w B (aP a b c) t)(ha:aq a)(hb:aq b)(hc:aq c)(hm:max (max a b) c=m):Calls Ψ 256 #[ζ B 3 3] w λe w'=>e=ϰ m/\w=w':=by
 have cB:=hB.cell;have zB:=hB.size;have Hm:=ag hm;clear hm;go_in;go_wp2;refine wp_loop_rounds 4 ?_;rw[cV];go_wp2
 all_goals
  rw[cV];go_wp2
  all_goals
   rw[cV];go_wp2
   all_goals
    rw[cV];go_wp2
   all_goals
    go_ret;exact⟨dP (by have:=Hm.out;omega),rfl⟩
theorem tf (r:RN)(p q v T:Int)(w:ϖ)(hb:r.b=false)(hr:r.ok)(hp:aq p)(hq:p*65536=q)(hv:r.reach q=v)(hT:max v r.t.X=T):
  CB 212 #[bW r,p] w T:=by
 have J2:ai q:=σa;have hv1:=RN.reach_rng hr q;rw[hv] at hv1;have Hq:=ag hq;have Hv:=ag hv;have HT:=ag hT;clear hq hv hT;have htX:=hr.2.1;have hfX:=hr.1.1;have cr:∀u,CB 218 #[φ #[r.f.X,(hi (r.f.Y)),(lo (r.f.Y)),r.f.M,r.t.X,(hi (r.t.Y)),(lo (r.t.Y)),r.t.M,dI],wv q] u v:=λu=>by have:=ir r q v u hr J2 Hv.out;rw[bW,hb] at this;exact this
 have Hcr:=ag cr;clear cr;rw[bW,hb];clear hb;unfold CB;go_in;go_wp2_with fail;refine aI (λv=>Below w w v/\ah v w #[r.f.X,(hi (r.f.Y)),(lo (r.f.Y)),r.f.M,r.t.X,(hi (r.t.Y)),(lo (r.t.Y)),r.t.M,dI] 236) ⟨ρE,ρB⟩ ?_;rintro v1 ⟨OE,NP⟩;have SO:=af NP;refine Wq ?_
 repeat (go_big_quiet_step ((first
   | (go_at_call 211;(with_reducible exact bT (gk p 65536 q _ hp ρa Hq.out)))
   | (go_at_call 218;(with_reducible exact bT (Hcr.out _))))))
 refine wpQuiet_nil ?_;intro _ NG;obtain⟨pq,KN⟩:=NG;subst KN;have IG:=ZW v1 pq.d pq.os;generalize Sort.grow (redrawn v1 pq.d) pq.os=w1 at*;have A1:ah w1 w #[r.f.X,(hi (r.f.Y)),(lo (r.f.Y)),r.f.M,r.t.X,(hi (r.t.Y)),(lo (r.t.Y)),r.t.M,dI] 236:=ah.below NP IG NP.size;have g1:Below w w w1:=OE.trans (IG.mono OE.size);have Jf:w.heap.size<=w1:=g1.size;clear IG OE NP SO;have Rr:=A1.r;go_wp2_with fail;refine(Ep v r.t.X T _ _ _ ρB ρa htX HT.out).mono ?_;rintro e w9 ⟨rfl,rfl⟩;go_wp2;go_ret;exact⟨rfl,ρE⟩
theorem vP (r:RN)(p q v T:Int)(w:ϖ)(hb:r.b=true)(hr:r.ok)(hp:aq p)(hq:p*65536=q)(hv:r.reach q=v)(hT:max (max v r.t.X) r.f.X=T):
  CB 212 #[bW r,p] w T:=by
 have J2:ai q:=σa;have hv1:=RN.reach_rng hr q;rw[hv] at hv1;have Hq:=ag hq;have Hv:=ag hv;have HT:=ag hT;clear hq hv hT;have htX:=hr.2.1;have hfX:=hr.1.1;have cr:∀u,CB 218 #[φ #[r.f.X,(hi (r.f.Y)),(lo (r.f.Y)),r.f.M,r.t.X,(hi (r.t.Y)),(lo (r.t.Y)),r.t.M,fJ],wv q] u v:=λu=>by have:=ir r q v u hr J2 Hv.out;rw[bW,hb] at this;exact this
 have Hcr:=ag cr;clear cr;rw[bW,hb];clear hb;unfold CB;go_in;go_wp2_with fail;refine aI (λv=>Below w w v/\ah v w #[r.f.X,(hi (r.f.Y)),(lo (r.f.Y)),r.f.M,r.t.X,(hi (r.t.Y)),(lo (r.t.Y)),r.t.M,fJ] 236) ⟨ρE,ρB⟩ ?_;rintro v1 ⟨OE,NP⟩;have SO:=af NP;refine Wq ?_
 repeat (go_big_quiet_step ((first
   | (go_at_call 211;(with_reducible exact bT (gk p 65536 q _ hp ρa Hq.out)))
   | (go_at_call 218;(with_reducible exact bT (Hcr.out _))))))
 refine wpQuiet_nil ?_;intro _ NG;obtain⟨pq,KN⟩:=NG;subst KN;have IG:=ZW v1 pq.d pq.os;generalize Sort.grow (redrawn v1 pq.d) pq.os=w1 at*;have A1:ah w1 w #[r.f.X,(hi (r.f.Y)),(lo (r.f.Y)),r.f.M,r.t.X,(hi (r.t.Y)),(lo (r.t.Y)),r.t.M,fJ] 236:=ah.below NP IG NP.size;have g1:Below w w w1:=OE.trans (IG.mono OE.size);have Jf:w.heap.size<=w1:=g1.size;clear IG OE NP SO;have Rr:=A1.r;go_wp2_with fail;refine(Es v r.t.X r.f.X T _ _ _ ρB ρa htX hfX HT.out).mono ?_;rintro e w9 ⟨rfl,rfl⟩;go_wp2;go_ret;exact⟨rfl,ρE⟩
theorem i9 (r:RN)(p T:Int)(w:ϖ)(hr:r.ok)(hp:aq p)(hT:r.time p=T):
  CB 212 #[bW r,p] w T:=by
 unfold RN.time at hT;rcases hb:r.b with _|_
 ·rw[hb] at hT;simp only[Bool.false_eq_true,if_false] at hT;exact tf r p _ _ T w hb hr hp rfl rfl hT
 ·rw[hb] at hT;simp only[if_true] at hT;exact vP r p _ _ T w hb hr hp rfl rfl hT
end Go.Proofs.YtfdlemkplejdnaaGreat
