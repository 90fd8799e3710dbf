/- WholeBehind, part 15. Conditions: none. -/
import Derived.Test.YtfdlemkplejdnaaGreatA10
namespace Go.Proofs.YtfdlemkplejdnaaGreat
open Go.RowKit Go.Sort
open Value renaming int->ι,pointer->ψ,slice->ζ,tuple->χ,agg->φ,map->μ,bool->β
open IntKind renaming u64->υ,i64->ε,u16->ω
open Ending renaming returned->ϰ
open Go.Proofs.Tryz renaming prog->Ψ,underlying3->Θ,underlying147->Δ,underlying152->Γ,underlying202->Φ,underlying39->Ξ,underlying207->Ω
open Go renaming World->ϖ,Value->ϗ
set_option linter.unusedVariables false
set_option linter.unusedSimpArgs false
set_option maxHeartbeats 8000000
set_option maxRecDepth 100000
structure CH where
 (has:Bool)
 (r:RN)
 (t:Int)
abbrev jy (c:CH):ϗ:=φ #[β c.has,ι υ c.r.f.X,ι υ (hi (c.r.f.Y)),ι υ (lo (c.r.f.Y)),ι υ c.r.f.M,ι υ c.r.t.X,ι υ (hi (c.r.t.Y)),ι υ (lo (c.r.t.Y)),ι υ c.r.t.M,β c.r.b,ι υ c.t]
def CH.ok (c:CH):Prop:=c.r.ok
def CH.wake (c:CH)(m d n low p:Int):CH:=⟨true,if c.has then RN.meet c.r (RN.start m d n low (p*65536)) else RN.start m d n low (p*65536),(if c.has then RN.meet c.r (RN.start m d n low (p*65536)) else RN.start m d n low (p*65536)).time p⟩
def CH.took (c:CH)(p:Int):CH:=if c.has then ⟨c.has,c.r,c.r.time p⟩ else c
theorem qL (c:CH)(m d n low p q T:Int)(s u:RN)(w:ϖ)(hm:aq m)(hd:aq d)(hn:aq n)(hl:0<=low/\low<=Mc)(hp:aq p)(hc:c.has=false)(hq:p*65536=q)(hs:RN.start m d n low q=s)(os:s.ok)(os':RN.ok s)(hT:s.time p=T):
  CB 157 #[φ (eT c.has c.r c.t),φ (aP m d n),low,p] w (φ (eT true s T)):=by
 have J2:ai q:=σa;have Hq:=ag hq;have Hs:=ag hs;have HT:=ag hT;clear hq hs hT;rw[hc];clear hc;unfold CB;go_in;go_upto_region 1 with (fail);go_cut [9] (λp9 wx=>∃X:Nat,p9=X/\w.heap.size+1+1<X/\Below w w wx/\ah wx w (eT false c.r c.t) 240/\ah wx (w+1) (aP m d n) 41/\ah wx (w+1+1) lh 240/\ah wx X (fW s) 236);case first=>
  go_region_held3 (λv=>Bk v w (eT false c.r c.t) 240/\Bk v (w+1) (aP m d n) 41/\Bk v (w+1+1) lh 240/\Below w w v) (exact ρH)
   (first
    | (go_at_call 211;(with_reducible refine(gk p 65536 q _ hp ρa Hq.out).mono ?_);refine bo ?_;intro w' f' IZ IY;(try have hX:=Xb f');(try simp only[World.size_alloc] at hX);(try have rX:=hX.r))
    | (go_at_call 205;(with_reducible refine(dY m d n low q s _ hm hd hn hl J2 Hs.out).mono ?_);refine bo ?_;intro w' f' IZ IY;(try have hX:=Xb f');(try simp only[World.size_alloc] at hX);(try have rX:=hX.r)))
  all_goals
   (try go_split_ands);go_wp2;go_meet;exact⟨_,rfl,ρb,ρE,ρB,ρB,ρB,ρB⟩
 case rest=>
  obtain⟨PX,rfl,lX,g1,A1,C1,R1,X1⟩:=hcut;refine δU ?_;intro Jf Rr cX fX zX;go_upto_region 4 with (fail);refine aI (λv=>Below w w v/\ah v w (eT false c.r c.t) 240/\ah v (w+1) (aP m d n) 41/\ah v (w+1+1) lh 240/\ah v (PX) (fW s) 236) ⟨ρE,ρB,ρB,ρB,ρB⟩ ?_;rintro w3 ⟨g3,A3,C3,R3,X3⟩;have LD:=g3.size;replace Rr:=θ3 A3.r C3.r R3.r;replace cX:=X3.cell;replace fX:=X3.frozen;replace zX:=X3.size;go_region_held3 (λv=>Bk v (PX) (fW s) 236/\Below w w v) (exact ρH)
   (first
    | (go_at_call 212;(with_reducible refine(i9 s p T _ os' hp HT.out).mono ?_);refine bo ?_;intro w' f' IZ IY;have Ji:=R3.tr f';have rR:=Ji.r))
  all_goals
   (try go_split_ands);go_wp2;exact Eb (w+1+1) (eT true s T) 240 rfl (λ_ cv=>(by simp[results,Tryz.results157,go_sem,cv]))
theorem sW (c:CH)(m d n low p q T:Int)(s u:RN)(w:ϖ)(hm:aq m)(hd:aq d)(hn:aq n)(hl:0<=low/\low<=Mc)(hp:aq p)(hc:c.has=true)(hq:p*65536=q)(hs:RN.start m d n low q=s)(os:s.ok)(oc:c.r.ok)(hu:RN.meet c.r s=u)(ou':RN.ok u)(hT:u.time p=T):
  CB 157 #[φ (eT c.has c.r c.t),φ (aP m d n),low,p] w (φ (eT true u T)):=by
 have J2:ai q:=σa;have Hq:=ag hq;have Hs:=ag hs;have HT:=ag hT;clear hq hs hT;have Hu:=ag hu;clear hu;rw[hc];clear hc;unfold CB;go_in;go_upto_region 1 with (fail);go_cut [9] (λp9 wx=>∃X:Nat,p9=X/\w.heap.size+1+1<X/\Below w w wx/\ah wx w (eT true c.r c.t) 240/\ah wx (w+1) (aP m d n) 41/\ah wx (w+1+1) lh 240/\ah wx X (fW s) 236);case first=>
  go_region_held3 (λv=>Bk v w (eT true c.r c.t) 240/\Bk v (w+1) (aP m d n) 41/\Bk v (w+1+1) lh 240/\Below w w v) (exact ρH)
   (first
    | (go_at_call 211;(with_reducible refine(gk p 65536 q _ hp ρa Hq.out).mono ?_);refine bo ?_;intro w' f' IZ IY;(try have hX:=Xb f');(try simp only[World.size_alloc] at hX);(try have rX:=hX.r))
    | (go_at_call 205;(with_reducible refine(dY m d n low q s _ hm hd hn hl J2 Hs.out).mono ?_);refine bo ?_;intro w' f' IZ IY;(try have hX:=Xb f');(try simp only[World.size_alloc] at hX);(try have rX:=hX.r)))
  all_goals
   (try go_split_ands);go_wp2;go_meet;exact⟨_,rfl,ρb,ρE,ρB,ρB,ρB,ρB⟩
 case rest=>
  obtain⟨PX,rfl,lX,g1,A1,C1,R1,X1⟩:=hcut;refine δU ?_;intro Jf Rr cX fX zX;go_wp2_with fail;refine(lD c.r s u _ oc os Hu.out).mono ?_;rintro e w2 ⟨rfl,IW⟩;have A2:ah w2 w (eT true c.r c.t) 240:=Zv IW;have C2:ah w2 (w+1) (aP m d n) 41:=Zv IW;have R2:ah w2 (w+1+1) lh 240:=Zv IW;have X2:ah w2 (PX) (fW s) 236:=Zv IW;refine η9 ?_;intro g2 Jr;clear IW;replace Rr:=θ3 A2.r C2.r R2.r;replace cX:=X2.cell;replace fX:=X2.frozen;replace zX:=X2.size;go_upto_region 4 with (fail);refine aI (λv=>Below w w v/\ah v w (eT true c.r c.t) 240/\ah v (w+1) (aP m d n) 41/\ah v (w+1+1) lh 240/\ah v (PX) (fW u) 236) ⟨ρE,ρB,ρB,ρB,ρB⟩ ?_;rintro w3 ⟨g3,A3,C3,R3,X3⟩;have LD:=g3.size;replace Rr:=θ3 A3.r C3.r R3.r;replace cX:=X3.cell;replace fX:=X3.frozen;replace zX:=X3.size;go_region_held3 (λv=>Bk v (PX) (fW u) 236/\Below w w v) (exact ρH)
   (first
    | (go_at_call 212;(with_reducible refine(i9 u p T _ ou' hp HT.out).mono ?_);refine bo ?_;intro w' f' IZ IY;have Ji:=R3.tr f';have rR:=Ji.r))
  all_goals
   (try go_split_ands);go_wp2;exact Eb (w+1+1) (eT true u T) 240 rfl (λ_ cv=>(by simp[results,Tryz.results157,go_sem,cv]))
theorem vL (c r:CH)(m d n low p:Int)(w:ϖ)(hm:aq m)(hd:aq d)(hn:aq n)(hl:0<=low/\low<=Mc)(hp:aq p)(oc:c.r.ok)(hr:c.wake m d n low p=r):
  CB 157 #[jy c,φ (aP m d n),low,p] w (jy r):=by
 subst hr;have os:=RN.start_ok (m:=m) (d:=d) (n:=n) (x:=low) (y:=p*65536) hm hd.1 hn hl (iS hp);rcases h:c.has with _|_
 ·have:=qL c m d n low p _ _ _ (RN.start m d n low (p*65536)) w hm hd hn hl hp h rfl rfl os os rfl;refine this.mono λe w' ⟨h1,h2⟩=>⟨h1.trans (kH ?_),h2⟩;simp only[jy,CH.wake,h,Bool.false_eq_true,if_false]
 ·have:=sW c m d n low p _ _ _ _ w hm hd hn hl hp h rfl rfl os oc rfl (RN.meet_ok oc os) rfl;refine this.mono λe w' ⟨h1,h2⟩=>⟨h1.trans (kH ?_),h2⟩;simp only[jy,CH.wake,h,if_true]
theorem qI (c:CH)(p T:Int)(w:ϖ)(hp:aq p)(hc:c.has=false)(oc:c.r.ok)(hT:c.r.time p=T):
  CB 162 #[jy c,p] w (φ (eT false c.r c.t)):=by
 have HT:=ag hT;clear hT;rw[jy,hc];clear hc;unfold CB;go_in;go_wp2;exact Eb (w+1) (eT false c.r c.t) 240 rfl (λ_ cv=>(by simp[results,Tryz.results162,go_sem,cv]))
theorem sV (c:CH)(p T:Int)(w:ϖ)(hp:aq p)(hc:c.has=true)(oc:c.r.ok)(hT:c.r.time p=T):
  CB 162 #[jy c,p] w (φ (eT true c.r T)):=by
 have HT:=ag hT;clear hT;rw[jy,hc];clear hc;unfold CB;go_in;go_wp2_with fail;refine(i9 c.r p T _ oc hp HT.out).mono ?_;rintro e w1 ⟨rfl,IG⟩;have A1:ah w1 w (eT true c.r c.t) 240:=Zv IG;have R1:ah w1 (w+1) lh 240:=Zv IG;refine η2 ?_;intro g1 Jf;clear IG;have Rr:=θ2 A1.r R1.r;go_wp2;exact Eb (w+1) (eT true c.r T) 240 rfl (λ_ cv=>(by simp[results,Tryz.results162,go_sem,cv]))
theorem vK (c r:CH)(p:Int)(w:ϖ)(hp:aq p)(oc:c.r.ok)(hr:c.took p=r):
  CB 162 #[jy c,p] w (jy r):=by
 subst hr;rcases h:c.has with _|_
 ·refine(qI c p _ w hp h oc rfl).mono λe w' ⟨h1,h2⟩=>⟨h1.trans (kH ?_),h2⟩;simp only[jy,CH.took,h,Bool.false_eq_true,if_false]
 ·refine(sV c p _ w hp h oc rfl).mono λe w' ⟨h1,h2⟩=>⟨h1.trans (kH ?_),h2⟩;simp only[jy,CH.took,h,if_true]
def CH.fit (c:CH)(p:Int):CH:=if c.has then ⟨c.has,c.r,c.r.reach (p*65536)⟩ else c
def CH.zero:CH:=⟨false,⟨⟨0,0,0⟩,⟨0,0,0⟩,false⟩,0⟩
def CH.capped (c:CH)(m d n now p:Int):CH:=if kd m d n<2 then CH.zero else ⟨true,if c.has then RN.meet c.r (RN.start m d n now (p*65536)) else RN.start m d n now (p*65536),(if c.has then RN.meet c.r (RN.start m d n now (p*65536)) else RN.start m d n now (p*65536)).reach (p*65536)⟩
theorem rf (c:CH)(p q T:Int)(w:ϖ)(hp:aq p)(hc:c.has=false)(oc:c.r.ok)(hq:p*65536=q)(hT:c.r.reach q=T):
  CB 163 #[jy c,p] w (φ (eT false c.r c.t)):=by
 have Yr:ai q:=σa;have HT:=ag hT;have Hq:=ag hq;clear hT hq;rw[jy,hc];clear hc;unfold CB;go_in;go_wp2;exact Eb (w+1) (eT false c.r c.t) 242 rfl (λ_ cv=>(by simp[results,Tryz.results163,go_sem,cv]))
theorem tq (c:CH)(p q T:Int)(w:ϖ)(hp:aq p)(hc:c.has=true)(oc:c.r.ok)(hq:p*65536=q)(hT:c.r.reach q=T):
  CB 163 #[jy c,p] w (φ (eT true c.r T)):=by
 have Yr:ai q:=σa;have HT:=ag hT;have Hq:=ag hq;clear hT hq;rw[jy,hc];clear hc;unfold CB;go_in;go_upto_region 2 with (fail);refine aI (λv=>Below w w v/\ah v w (eT true c.r c.t) 242/\ah v (w+1) lh 242) ⟨ρE,ρB,ρB⟩ ?_;rintro w1 ⟨g1,A1,R1⟩;have Jf:=g1.size;have Rr:=θ2 A1.r R1.r;go_region_held3 (λv=>v.cell? ⟨w,1,none⟩=some (ι υ c.r.f.X)/\v.cell? ⟨w,2,none⟩=some (ι υ (hi (c.r.f.Y)))/\v.cell? ⟨w,3,none⟩=some (ι υ (lo (c.r.f.Y)))/\v.cell? ⟨w,4,none⟩=some (ι υ c.r.f.M)/\v.cell? ⟨w,5,none⟩=some (ι υ c.r.t.X)/\v.cell? ⟨w,6,none⟩=some (ι υ (hi (c.r.t.Y)))/\v.cell? ⟨w,7,none⟩=some (ι υ (lo (c.r.t.Y)))/\v.cell? ⟨w,8,none⟩=some (ι υ c.r.t.M)/\v.cell? ⟨w,9,none⟩=some (β c.r.b)/\w.heap.size<v/\Below w w v)
  (first
   | (refine⟨?_,?_,?_,?_,?_,?_,?_,?_,?_,?_,?_⟩<;>first | (with_reducible assumption) | ((repeat' (first | (with_reducible (first | exact Below.refl _ _ | assumption | refine below_drewN ?_ _ | refine Below.drew ?_ | refine Below.alloc ?_ ?_ _ | refine Below.setCell ?_ ?_ _)) | go_size));done) | omega | (go_simp;done) | (simp;done)))
  (first
   | (go_at_call 211;(with_reducible refine(gk p 65536 q _ hp ρa Hq.out).mono ?_);refine bo ?_;intro w' f' IZ IY;have IP:=A1.tr f';have rA:=IP.r;have Ji:=R1.tr f';have rR:=Ji.r;have Ly:w'.cell? ⟨w,1,none⟩=some (ι υ c.r.f.X):=((f'.cell ρb).trans ρe);have J2:w'.cell? ⟨w,2,none⟩=some (ι υ (hi (c.r.f.Y))):=((f'.cell ρb).trans ρe);have Kk:w'.cell? ⟨w,3,none⟩=some (ι υ (lo (c.r.f.Y))):=((f'.cell ρb).trans ρe);have hq3:w'.cell? ⟨w,4,none⟩=some (ι υ c.r.f.M):=((f'.cell ρb).trans ρe);have hq4:w'.cell? ⟨w,5,none⟩=some (ι υ c.r.t.X):=((f'.cell ρb).trans ρe);have hq5:w'.cell? ⟨w,6,none⟩=some (ι υ (hi (c.r.t.Y))):=((f'.cell ρb).trans ρe);have hq6:w'.cell? ⟨w,7,none⟩=some (ι υ (lo (c.r.t.Y))):=((f'.cell ρb).trans ρe);have hq7:w'.cell? ⟨w,8,none⟩=some (ι υ c.r.t.M):=((f'.cell ρb).trans ρe);have hq8:w'.cell? ⟨w,9,none⟩=some (β c.r.b):=((f'.cell ρb).trans ρe);clear f')
   | (go_at_call 218;(with_reducible refine(ir c.r q T _ oc Yr HT.out).mono ?_);refine bo ?_;intro w' f' IZ IY;have IP:=A1.tr f';have rA:=IP.r;have Ji:=R1.tr f';have rR:=Ji.r;have Ly:w'.cell? ⟨w,1,none⟩=some (ι υ c.r.f.X):=((f'.cell ρb).trans ρe);have J2:w'.cell? ⟨w,2,none⟩=some (ι υ (hi (c.r.f.Y))):=((f'.cell ρb).trans ρe);have Kk:w'.cell? ⟨w,3,none⟩=some (ι υ (lo (c.r.f.Y))):=((f'.cell ρb).trans ρe);have hq3:w'.cell? ⟨w,4,none⟩=some (ι υ c.r.f.M):=((f'.cell ρb).trans ρe);have hq4:w'.cell? ⟨w,5,none⟩=some (ι υ c.r.t.X):=((f'.cell ρb).trans ρe);have hq5:w'.cell? ⟨w,6,none⟩=some (ι υ (hi (c.r.t.Y))):=((f'.cell ρb).trans ρe);have hq6:w'.cell? ⟨w,7,none⟩=some (ι υ (lo (c.r.t.Y))):=((f'.cell ρb).trans ρe);have hq7:w'.cell? ⟨w,8,none⟩=some (ι υ c.r.t.M):=((f'.cell ρb).trans ρe);have hq8:w'.cell? ⟨w,9,none⟩=some (β c.r.b):=((f'.cell ρb).trans ρe);clear f'))
 all_goals
  go_upto_region 3 with (fail);refine aI (λv=>Below w w v/\ah v w (eT true c.r T) 242/\ah v (w+1) lh 242) ⟨ρE,ρB,ρB⟩ ?_;rintro w2 ⟨g2,A2,R2⟩;have Jr:=g2.size;replace Rr:=θ2 A2.r R2.r;go_wp2;exact Eb (w+1) (eT true c.r T) 242 rfl (λ_ cv=>(by simp[results,Tryz.results163,go_sem,cv]))
theorem jT (c r:CH)(p:Int)(w:ϖ)(hp:aq p)(oc:c.r.ok)(hr:c.fit p=r):
  CB 163 #[jy c,p] w (jy r):=by
 subst hr;rcases h:c.has with _|_
 ·refine(rf c p _ _ w hp h oc rfl rfl).mono λe w' ⟨h1,h2⟩=>⟨h1.trans (kH ?_),h2⟩;simp only[jy,CH.fit,h,Bool.false_eq_true,if_false]
 ·refine(tq c p _ _ w hp h oc rfl rfl).mono λe w' ⟨h1,h2⟩=>⟨h1.trans (kH ?_),h2⟩;simp only[jy,CH.fit,h,if_true]
theorem tw (c:CH)(m d n now p q T k:Int)(s u:RN)(w:ϖ)(hm:aq m)(hd:aq d)(hn:aq n)(hl:0<=now/\now<=Mc)(hp:aq p)(hk:kd m d n=k)(hq:p*65536=q)(hs:RN.start m d n now q=s)(h2:k<2)(k0:0<=k)(os:s.ok):
  CB 158 #[jy c,φ (aP m d n),now,p] w (φ lh):=by
 have Yr:ai q:=σa;have Hq:=ag hq;have Hs:=ag hs;have Hk:=ag hk;clear hq hs hk;unfold CB;go_in;go_upto_region 1 with (fail);go_cut [9] (λp9 wx=>∃X:Nat,p9=X/\w.heap.size+1+1<X/\Below w w wx/\ah wx w (eT c.has c.r c.t) 242/\ah wx (w+1) (aP m d n) 41/\ah wx (w+1+1) lh 242/\ah wx X (fW s) 236);case first=>
  go_region_held3 (λv=>Bk v w (eT c.has c.r c.t) 242/\Bk v (w+1) (aP m d n) 41/\Bk v (w+1+1) lh 242/\Below w w v) (exact ρH)
   (first
    | (go_at_call 211;(with_reducible refine(gk p 65536 q _ hp ρa Hq.out).mono ?_);refine bo ?_;intro w' f' IZ IY;(try have hX:=Xb f');(try simp only[World.size_alloc] at hX);(try have rX:=hX.r))
    | (go_at_call 205;(with_reducible refine(dY m d n now q s _ hm hd hn hl Yr Hs.out).mono ?_);refine bo ?_;intro w' f' IZ IY;(try have hX:=Xb f');(try simp only[World.size_alloc] at hX);(try have rX:=hX.r)))
  all_goals
   (try go_split_ands);go_wp2;go_meet;exact⟨_,rfl,ρb,ρE,ρB,ρB,ρB,ρB⟩
 case rest=>
  obtain⟨PX,rfl,lX,g1,A1,C1,R1,X1⟩:=hcut;refine δU ?_;intro Jf Rr cX fX zX;go_wp2_with fail;refine δt ?_;rintro e w2 ⟨rfl,IW⟩;have R2:ah w2 (w+1+1) lh 242:=Zv IW;refine η9 ?_;intro g2 Jr;clear IW;replace Rr:=R2.r;by_cases e0:k=0
  ·have d0:(k==0)=true:=beq_iff_eq.2 e0;go_wp2;exact Eb (w+1+1) lh 242 rfl τb
  ·have d0:(k==0)=false:=ZN.2 e0;have d1:(k==1)=true:=beq_iff_eq.2 ρa;go_wp2;exact Eb (w+1+1) lh 242 rfl τb
theorem rg (c:CH)(m d n now p q T k:Int)(s u:RN)(w:ϖ)(hm:aq m)(hd:aq d)(hn:aq n)(hl:0<=now/\now<=Mc)(hp:aq p)(hk:kd m d n=k)(hc:c.has=false)(hq:p*65536=q)(hs:RN.start m d n now q=s)(h2:¬k<2)(os:s.ok)(os':RN.ok s)(hT:s.reach q=T):
  CB 158 #[φ (eT c.has c.r c.t),φ (aP m d n),now,p] w (φ (eT true s T)):=by
 have Yr:ai q:=σa;have tk:∀v,CB 163 #[φ (eT true s 0),p] v (φ (eT true s T)):=λv=>
  jT ⟨true,s,0⟩ ⟨true,s,T⟩ p v hp os' (by rw[<- hT,<- hq];rfl)
 have Htk:=ag tk;have Hq:=ag hq;have Hs:=ag hs;have Hk:=ag hk;clear hq hs hT hk tk;have d0:(k==0)=false:=ZN.2 ρa;have d1:(k==1)=false:=ZN.2 ρa;rw[hc];clear hc;unfold CB;go_in;go_upto_region 1 with (fail);go_cut [9] (λp9 wx=>∃X:Nat,p9=X/\w.heap.size+1+1<X/\Below w w wx/\ah wx w (eT false c.r c.t) 242/\ah wx (w+1) (aP m d n) 41/\ah wx (w+1+1) lh 242/\ah wx X (fW s) 236);case first=>
  go_region_held3 (λv=>Bk v w (eT false c.r c.t) 242/\Bk v (w+1) (aP m d n) 41/\Bk v (w+1+1) lh 242/\Below w w v) (exact ρH)
   (first
    | (go_at_call 211;(with_reducible refine(gk p 65536 q _ hp ρa Hq.out).mono ?_);refine bo ?_;intro w' f' IZ IY;(try have hX:=Xb f');(try simp only[World.size_alloc] at hX);(try have rX:=hX.r))
    | (go_at_call 205;(with_reducible refine(dY m d n now q s _ hm hd hn hl Yr Hs.out).mono ?_);refine bo ?_;intro w' f' IZ IY;(try have hX:=Xb f');(try simp only[World.size_alloc] at hX);(try have rX:=hX.r)))
  all_goals
   (try go_split_ands);go_wp2;go_meet;exact⟨_,rfl,ρb,ρE,ρB,ρB,ρB,ρB⟩
 case rest=>
  obtain⟨PX,rfl,lX,g1,A1,C1,R1,X1⟩:=hcut;refine δU ?_;intro Jf Rr cX fX zX;go_wp2_with fail;refine δt ?_;rintro e w2 ⟨rfl,IW⟩;have A2:ah w2 w (eT false c.r c.t) 242:=Zv IW;have R2:ah w2 (w+1+1) lh 242:=Zv IW;have X2:ah w2 (PX) (fW s) 236:=Zv IW;refine η9 ?_;intro g2 Jr;clear IW;replace Rr:=θ2 A2.r R2.r;replace cX:=X2.cell;replace fX:=X2.frozen;replace zX:=X2.size;go_wp2_with fail;refine(Htk.out _).mono ?_;rintro e w5 ⟨rfl,JF⟩;have R5:=R2.tr JF;have g5:=Tg w JF;have QZ:=JF.size;(try simp at QZ);clear JF;replace Rr:=R5.r;go_wp2;exact Eb (w+1+1) (eT true s T) 242 rfl τb
theorem tz (c:CH)(m d n now p q T k:Int)(s u:RN)(w:ϖ)(hm:aq m)(hd:aq d)(hn:aq n)(hl:0<=now/\now<=Mc)(hp:aq p)(hk:kd m d n=k)(hc:c.has=true)(hq:p*65536=q)(hs:RN.start m d n now q=s)(h2:¬k<2)(os:s.ok)(oc:c.r.ok)(hu:RN.meet c.r s=u)(ou':RN.ok u)(hT:u.reach q=T):
  CB 158 #[φ (eT c.has c.r c.t),φ (aP m d n),now,p] w (φ (eT true u T)):=by
 have Yr:ai q:=σa;have tk:∀v,CB 163 #[φ (eT true u 0),p] v (φ (eT true u T)):=λv=>
  jT ⟨true,u,0⟩ ⟨true,u,T⟩ p v hp ou' (by rw[<- hT,<- hq];rfl)
 have Htk:=ag tk;have Hq:=ag hq;have Hs:=ag hs;have Hk:=ag hk;clear hq hs hT hk tk;have Hu:=ag hu;clear hu;have d0:(k==0)=false:=ZN.2 ρa;have d1:(k==1)=false:=ZN.2 ρa;rw[hc];clear hc;unfold CB;go_in;go_upto_region 1 with (fail);go_cut [9] (λp9 wx=>∃X:Nat,p9=X/\w.heap.size+1+1<X/\Below w w wx/\ah wx w (eT true c.r c.t) 242/\ah wx (w+1) (aP m d n) 41/\ah wx (w+1+1) lh 242/\ah wx X (fW s) 236);case first=>
  go_region_held3 (λv=>Bk v w (eT true c.r c.t) 242/\Bk v (w+1) (aP m d n) 41/\Bk v (w+1+1) lh 242/\Below w w v) (exact ρH)
   (first
    | (go_at_call 211;(with_reducible refine(gk p 65536 q _ hp ρa Hq.out).mono ?_);refine bo ?_;intro w' f' IZ IY;(try have hX:=Xb f');(try simp only[World.size_alloc] at hX);(try have rX:=hX.r))
    | (go_at_call 205;(with_reducible refine(dY m d n now q s _ hm hd hn hl Yr Hs.out).mono ?_);refine bo ?_;intro w' f' IZ IY;(try have hX:=Xb f');(try simp only[World.size_alloc] at hX);(try have rX:=hX.r)))
  all_goals
   (try go_split_ands);go_wp2;go_meet;exact⟨_,rfl,ρb,ρE,ρB,ρB,ρB,ρB⟩
 case rest=>
  obtain⟨PX,rfl,lX,g1,A1,C1,R1,X1⟩:=hcut;refine δU ?_;intro Jf Rr cX fX zX;go_wp2_with fail;refine δt ?_;rintro e w2 ⟨rfl,IW⟩;have A2:ah w2 w (eT true c.r c.t) 242:=Zv IW;have R2:ah w2 (w+1+1) lh 242:=Zv IW;have X2:ah w2 (PX) (fW s) 236:=Zv IW;refine η9 ?_;intro g2 Jr;clear IW;replace Rr:=θ2 A2.r R2.r;replace cX:=X2.cell;replace fX:=X2.frozen;replace zX:=X2.size;go_wp2_with fail;refine(lD c.r s u _ oc os Hu.out).mono ?_;rintro e w3 ⟨rfl,JJ⟩;have R3:=R2.tr JJ;have X3:=X2.tr JJ;have g3:=Tg w JJ;have LD:=JJ.size;(try simp at LD);clear JJ;replace Rr:=R3.r;replace cX:=X3.cell;replace fX:=X3.frozen;replace zX:=X3.size;go_upto_region 8 with (fail);refine aI (λv=>Below w w v/\ah v (w+1+1) lh 242/\ah v (PX) (fW u) 236) ⟨ρE,ρB,ρB⟩ ?_;rintro w4 ⟨g4,R4,X4⟩;have RR:=g4.size;replace Rr:=R4.r;replace cX:=X4.cell;replace fX:=X4.frozen;replace zX:=X4.size;go_wp2_with fail;refine(Htk.out _).mono ?_;rintro e w5 ⟨rfl,JF⟩;have R5:=R4.tr JF;have g5:=Tg w JF;have QZ:=JF.size;(try simp at QZ);clear JF;replace Rr:=R5.r;go_wp2;exact Eb (w+1+1) (eT true u T) 242 rfl τb
theorem vT (c r:CH)(m d n now p:Int)(w:ϖ)(hm:aq m)(hd:aq d)(hn:aq n)(hl:0<=now/\now<=Mc)(hp:aq p)(oc:c.r.ok)(hr:c.capped m d n now p=r):
  CB 158 #[jy c,φ (aP m d n),now,p] w (jy r):=by
 subst hr;have os:=RN.start_ok (m:=m) (d:=d) (n:=n) (x:=now) (y:=p*65536) hm hd.1 hn hl (iS hp);have s0:RN:=RN.start m d n now (p*65536);by_cases h2:kd m d n<2
 ·refine(tw c m d n now p _ 0 _ _ s0 w hm hd hn hl hp rfl rfl rfl h2 (fV m d n).1 os).mono λe w' ⟨h1,h2'⟩=>⟨h1.trans (kH ?_),h2'⟩;simp only[jy,CH.capped,h2,if_true,CH.zero];rfl
 ·rcases h:c.has with _|_
  ·have:=rg c m d n now p _ _ _ _ s0 w hm hd hn hl hp rfl h rfl rfl h2 os os rfl;refine this.mono λe w' ⟨h1,h2'⟩=>⟨h1.trans (kH ?_),h2'⟩;simp only[jy,CH.capped,h,h2,Bool.false_eq_true,if_false]
  ·have:=tz c m d n now p _ _ _ _ _ w hm hd hn hl hp rfl h rfl rfl h2 os oc rfl (RN.meet_ok oc os) rfl;refine this.mono λe w' ⟨h1,h2'⟩=>⟨h1.trans (kH ?_),h2'⟩;simp only[jy,CH.capped,h,h2,if_true,if_false]
theorem uR (a b r:Int)(w:ϖ)(hr:max a b=r):Calls Ψ 257 #[a,b] w λx w'=>x=ϰ r/\Below w w w':=by
 have Hr:=ag hr;clear hr;by_cases h:a<b
 ·exact ηB
 ·exact ηB
end Go.Proofs.YtfdlemkplejdnaaGreat
