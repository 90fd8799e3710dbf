/- WholeLatest, part 18. Conditions: none. -/
import Derived.Test.YtfdlemkplejdnaaGreatA13
namespace Go.Proofs.YtfdlemkplejdnaaGreat
open Go.RowKit Go.Sort
open Value renaming int->ι,pointer->ψ,slice->ζ,tuple->χ,agg->φ,map->μ,bool->β
open IntKind renaming u64->υ,i64->ε,u16->ω
open Ending renaming returned->ϰ
open Go.Proofs.Tryz renaming prog->Ψ,underlying3->Θ,underlying147->Δ,underlying152->Γ,underlying202->Φ,underlying39->Ξ,underlying207->Ω
open Go renaming World->ϖ,Value->ϗ
set_option linter.unusedVariables false
set_option linter.unusedSimpArgs false
set_option maxHeartbeats 8000000
set_option maxRecDepth 100000
structure CH where
 (has:Bool)
 (r:RN)
 (t:Int)
abbrev jS (c:CH):ϗ:=φ #[β c.has,ι υ c.r.f.X,ι υ (hi (c.r.f.Y)),ι υ (lo (c.r.f.Y)),ι υ c.r.f.M,ι υ c.r.t.X,ι υ (hi (c.r.t.Y)),ι υ (lo (c.r.t.Y)),ι υ c.r.t.M,β c.r.b,ι υ c.t]
def CH.ok (c:CH):Prop:=c.r.ok
def CH.wake (c:CH)(m d n low p:Int):CH:=⟨true,if c.has then RN.meet c.r (RN.start m d n low (p*65536)) else RN.start m d n low (p*65536),(if c.has then RN.meet c.r (RN.start m d n low (p*65536)) else RN.start m d n low (p*65536)).time p⟩
def CH.took (c:CH)(p:Int):CH:=if c.has then ⟨c.has,c.r,c.r.time p⟩ else c
theorem sQ (c:CH)(m d n low p q T:Int)(s u:RN)(w:ϖ)(hm:an m)(hd:an d)(hn:an n)(hl:0<=low/\low<=Mc)(hp:an p)(hc:c.has=false)(hq:p*65536=q)(hs:RN.start m d n low q=s)(os:s.ok)(os':RN.ok s)(hT:s.time p=T):
  CB 157 #[φ (eX c.has c.r c.t),φ (aH m d n),low,p] w (φ (eX true s T)):=by
 have LZ:ai q:=ρ9;have Hq:=ag hq;have Hs:=ag hs;have HT:=ag hT;clear hq hs hT;rw[hc];clear hc;unfold CB;go_in;go_upto_region 1 with (fail);go_cut [9] (λp9 wx=>∃X:Nat,p9=X/\w.heap.size+1+1<X/\Below w w wx/\ah wx w (eX false c.r c.t) 240/\ah wx (w+1) (aH m d n) 41/\ah wx (w+1+1) mf 240/\ah wx X (gd s) 236);case first=>
  go_region_held3 (λv=>Bk v w (eX false c.r c.t) 240/\Bk v (w+1) (aH m d n) 41/\Bk v (w+1+1) mf 240/\Below w w v) (exact ρH)
   (first
    | (go_at_call 211;(with_reducible refine(gF p 65536 q _ hp ρa Hq.out).mono ?_);refine bf ?_;intro w' f' KK KJ;(try have hX:=Xb f');(try simp only[World.size_alloc] at hX);(try have rX:=hX.r))
    | (go_at_call 205;(with_reducible refine(ew m d n low q s _ hm hd hn hl LZ Hs.out).mono ?_);refine bf ?_;intro w' f' KK KJ;(try have hX:=Xb f');(try simp only[World.size_alloc] at hX);(try have rX:=hX.r)))
  all_goals
   (try go_split_ands);go_wp2;go_meet;exact⟨_,rfl,ρb,ρE,ρB,ρB,ρB,ρB⟩
 case rest=>
  obtain⟨PX,rfl,lX,g1,A1,C1,R1,X1⟩:=hcut;refine δT ?_;intro KN Rr cX fX zX;go_upto_region 4 with (fail);refine aI (λv=>Below w w v/\ah v w (eX false c.r c.t) 240/\ah v (w+1) (aH m d n) 41/\ah v (w+1+1) mf 240/\ah v (PX) (gd s) 236) ⟨ρE,ρB,ρB,ρB,ρB⟩ ?_;rintro w3 ⟨g3,A3,C3,R3,X3⟩;have NW:=g3.size;replace Rr:=θ3 A3.r C3.r R3.r;replace cX:=X3.cell;replace fX:=X3.frozen;replace zX:=X3.size;go_region_held3 (λv=>Bk v (PX) (gd s) 236/\Below w w v) (exact ρH)
   (first
    | (go_at_call 212;(with_reducible refine(jl s p T _ os' hp HT.out).mono ?_);refine bf ?_;intro w' f' KK KJ;have KT:=R3.tr f';have rR:=KT.r))
  all_goals
   (try go_split_ands);go_wp2;exact Eb (w+1+1) (eX true s T) 240 rfl (λ_ cv=>(by simp[results,Tryz.results157,go_sem,cv]))
theorem uy (c:CH)(m d n low p q T:Int)(s u:RN)(w:ϖ)(hm:an m)(hd:an d)(hn:an n)(hl:0<=low/\low<=Mc)(hp:an p)(hc:c.has=true)(hq:p*65536=q)(hs:RN.start m d n low q=s)(os:s.ok)(oc:c.r.ok)(hu:RN.meet c.r s=u)(ou':RN.ok u)(hT:u.time p=T):
  CB 157 #[φ (eX c.has c.r c.t),φ (aH m d n),low,p] w (φ (eX true u T)):=by
 have LZ:ai q:=ρ9;have Hq:=ag hq;have Hs:=ag hs;have HT:=ag hT;clear hq hs hT;have Hu:=ag hu;clear hu;rw[hc];clear hc;unfold CB;go_in;go_upto_region 1 with (fail);go_cut [9] (λp9 wx=>∃X:Nat,p9=X/\w.heap.size+1+1<X/\Below w w wx/\ah wx w (eX true c.r c.t) 240/\ah wx (w+1) (aH m d n) 41/\ah wx (w+1+1) mf 240/\ah wx X (gd s) 236);case first=>
  go_region_held3 (λv=>Bk v w (eX true c.r c.t) 240/\Bk v (w+1) (aH m d n) 41/\Bk v (w+1+1) mf 240/\Below w w v) (exact ρH)
   (first
    | (go_at_call 211;(with_reducible refine(gF p 65536 q _ hp ρa Hq.out).mono ?_);refine bf ?_;intro w' f' KK KJ;(try have hX:=Xb f');(try simp only[World.size_alloc] at hX);(try have rX:=hX.r))
    | (go_at_call 205;(with_reducible refine(ew m d n low q s _ hm hd hn hl LZ Hs.out).mono ?_);refine bf ?_;intro w' f' KK KJ;(try have hX:=Xb f');(try simp only[World.size_alloc] at hX);(try have rX:=hX.r)))
  all_goals
   (try go_split_ands);go_wp2;go_meet;exact⟨_,rfl,ρb,ρE,ρB,ρB,ρB,ρB⟩
 case rest=>
  obtain⟨PX,rfl,lX,g1,A1,C1,R1,X1⟩:=hcut;refine δT ?_;intro KN Rr cX fX zX;go_wp2_with fail;refine(mw c.r s u _ oc os Hu.out).mono ?_;rintro e w2 ⟨rfl,Kx⟩;have A2:ah w2 w (eX true c.r c.t) 240:=Zv Kx;have C2:ah w2 (w+1) (aH m d n) 41:=Zv Kx;have R2:ah w2 (w+1+1) mf 240:=Zv Kx;have X2:ah w2 (PX) (gd s) 236:=Zv Kx;refine η9 ?_;intro g2 Li;clear Kx;replace Rr:=θ3 A2.r C2.r R2.r;replace cX:=X2.cell;replace fX:=X2.frozen;replace zX:=X2.size;go_upto_region 4 with (fail);refine aI (λv=>Below w w v/\ah v w (eX true c.r c.t) 240/\ah v (w+1) (aH m d n) 41/\ah v (w+1+1) mf 240/\ah v (PX) (gd u) 236) ⟨ρE,ρB,ρB,ρB,ρB⟩ ?_;rintro w3 ⟨g3,A3,C3,R3,X3⟩;have NW:=g3.size;replace Rr:=θ3 A3.r C3.r R3.r;replace cX:=X3.cell;replace fX:=X3.frozen;replace zX:=X3.size;go_region_held3 (λv=>Bk v (PX) (gd u) 236/\Below w w v) (exact ρH)
   (first
    | (go_at_call 212;(with_reducible refine(jl u p T _ ou' hp HT.out).mono ?_);refine bf ?_;intro w' f' KK KJ;have KT:=R3.tr f';have rR:=KT.r))
  all_goals
   (try go_split_ands);go_wp2;exact Eb (w+1+1) (eX true u T) 240 rfl (λ_ cv=>(by simp[results,Tryz.results157,go_sem,cv]))
theorem xx (c r:CH)(m d n low p:Int)(w:ϖ)(hm:an m)(hd:an d)(hn:an n)(hl:0<=low/\low<=Mc)(hp:an p)(oc:c.r.ok)(hr:c.wake m d n low p=r):
  CB 157 #[jS c,φ (aH m d n),low,p] w (jS r):=by
 subst hr;have os:=RN.start_ok (m:=m) (d:=d) (n:=n) (x:=low) (y:=p*65536) hm hd.1 hn hl (ja hp);rcases h:c.has with _|_
 ·have:=sQ c m d n low p _ _ _ (RN.start m d n low (p*65536)) w hm hd hn hl hp h rfl rfl os os rfl;refine this.mono λe w' ⟨h1,h2⟩=>⟨h1.trans (lx ?_),h2⟩;simp only[jS,CH.wake,h,Bool.false_eq_true,if_false]
 ·have:=uy c m d n low p _ _ _ _ w hm hd hn hl hp h rfl rfl os oc rfl (RN.meet_ok oc os) rfl;refine this.mono λe w' ⟨h1,h2⟩=>⟨h1.trans (lx ?_),h2⟩;simp only[jS,CH.wake,h,if_true]
theorem sM (c:CH)(p T:Int)(w:ϖ)(hp:an p)(hc:c.has=false)(oc:c.r.ok)(hT:c.r.time p=T):
  CB 162 #[jS c,p] w (φ (eX false c.r c.t)):=by
 have HT:=ag hT;clear hT;rw[jS,hc];clear hc;unfold CB;go_in;go_wp2;exact Eb (w+1) (eX false c.r c.t) 240 rfl (λ_ cv=>(by simp[results,Tryz.results162,go_sem,cv]))
theorem uw (c:CH)(p T:Int)(w:ϖ)(hp:an p)(hc:c.has=true)(oc:c.r.ok)(hT:c.r.time p=T):
  CB 162 #[jS c,p] w (φ (eX true c.r T)):=by
 have HT:=ag hT;clear hT;rw[jS,hc];clear hc;unfold CB;go_in;go_wp2_with fail;refine(jl c.r p T _ oc hp HT.out).mono ?_;rintro e w1 ⟨rfl,Kr⟩;have A1:ah w1 w (eX true c.r c.t) 240:=Zv Kr;have R1:ah w1 (w+1) mf 240:=Zv Kr;refine η0 ?_;intro g1 KN;clear Kr;have Rr:=θ2 A1.r R1.r;go_wp2;exact Eb (w+1) (eX true c.r T) 240 rfl (λ_ cv=>(by simp[results,Tryz.results162,go_sem,cv]))
theorem xu (c r:CH)(p:Int)(w:ϖ)(hp:an p)(oc:c.r.ok)(hr:c.took p=r):
  CB 162 #[jS c,p] w (jS r):=by
 subst hr;rcases h:c.has with _|_
 ·refine(sM c p _ w hp h oc rfl).mono λe w' ⟨h1,h2⟩=>⟨h1.trans (lx ?_),h2⟩;simp only[jS,CH.took,h,Bool.false_eq_true,if_false]
 ·refine(uw c p _ w hp h oc rfl).mono λe w' ⟨h1,h2⟩=>⟨h1.trans (lx ?_),h2⟩;simp only[jS,CH.took,h,if_true]
def CH.fit (c:CH)(p:Int):CH:=if c.has then ⟨c.has,c.r,c.r.reach (p*65536)⟩ else c
def CH.zero:CH:=⟨false,⟨⟨0,0,0⟩,⟨0,0,0⟩,false⟩,0⟩
def CH.capped (c:CH)(m d n now p:Int):CH:=if kd m d n<2 then CH.zero else ⟨true,if c.has then RN.meet c.r (RN.start m d n now (p*65536)) else RN.start m d n now (p*65536),(if c.has then RN.meet c.r (RN.start m d n now (p*65536)) else RN.start m d n now (p*65536)).reach (p*65536)⟩
theorem sY (c:CH)(p q T:Int)(w:ϖ)(hp:an p)(hc:c.has=false)(oc:c.r.ok)(hq:p*65536=q)(hT:c.r.reach q=T):
  CB 163 #[jS c,p] w (φ (eX false c.r c.t)):=by
 have Zj:ai q:=ρ9;have HT:=ag hT;have Hq:=ag hq;clear hT hq;rw[jS,hc];clear hc;unfold CB;go_in;go_wp2;exact Eb (w+1) (eX false c.r c.t) 242 rfl (λ_ cv=>(by simp[results,Tryz.results163,go_sem,cv]))
theorem uK (c:CH)(p q T:Int)(w:ϖ)(hp:an p)(hc:c.has=true)(oc:c.r.ok)(hq:p*65536=q)(hT:c.r.reach q=T):
  CB 163 #[jS c,p] w (φ (eX true c.r T)):=by
 have Zj:ai q:=ρ9;have HT:=ag hT;have Hq:=ag hq;clear hT hq;rw[jS,hc];clear hc;unfold CB;go_in;go_upto_region 2 with (fail);refine aI (λv=>Below w w v/\ah v w (eX true c.r c.t) 242/\ah v (w+1) mf 242) ⟨ρE,ρB,ρB⟩ ?_;rintro w1 ⟨g1,A1,R1⟩;have KN:=g1.size;have Rr:=θ2 A1.r R1.r;go_region_held3 (λv=>v.cell? ⟨w,1,none⟩=some (ι υ c.r.f.X)/\v.cell? ⟨w,2,none⟩=some (ι υ (hi (c.r.f.Y)))/\v.cell? ⟨w,3,none⟩=some (ι υ (lo (c.r.f.Y)))/\v.cell? ⟨w,4,none⟩=some (ι υ c.r.f.M)/\v.cell? ⟨w,5,none⟩=some (ι υ c.r.t.X)/\v.cell? ⟨w,6,none⟩=some (ι υ (hi (c.r.t.Y)))/\v.cell? ⟨w,7,none⟩=some (ι υ (lo (c.r.t.Y)))/\v.cell? ⟨w,8,none⟩=some (ι υ c.r.t.M)/\v.cell? ⟨w,9,none⟩=some (β c.r.b)/\w.heap.size<v/\Below w w v)
  (first
   | (refine⟨?_,?_,?_,?_,?_,?_,?_,?_,?_,?_,?_⟩<;>first | (with_reducible assumption) | ((repeat' (first | (with_reducible (first | exact Below.refl _ _ | assumption | refine below_drewN ?_ _ | refine Below.drew ?_ | refine Below.alloc ?_ ?_ _ | refine Below.setCell ?_ ?_ _)) | go_size));done) | omega | (go_simp;done) | (simp;done)))
  (first
   | (go_at_call 211;(with_reducible refine(gF p 65536 q _ hp ρa Hq.out).mono ?_);refine bf ?_;intro w' f' KK KJ;have KA:=A1.tr f';have rA:=KA.r;have KT:=R1.tr f';have rR:=KT.r;have NU:w'.cell? ⟨w,1,none⟩=some (ι υ c.r.f.X):=((f'.cell ρb).trans ρe);have LZ:w'.cell? ⟨w,2,none⟩=some (ι υ (hi (c.r.f.Y))):=((f'.cell ρb).trans ρe);have MQ:w'.cell? ⟨w,3,none⟩=some (ι υ (lo (c.r.f.Y))):=((f'.cell ρb).trans ρe);have hq3:w'.cell? ⟨w,4,none⟩=some (ι υ c.r.f.M):=((f'.cell ρb).trans ρe);have hq4:w'.cell? ⟨w,5,none⟩=some (ι υ c.r.t.X):=((f'.cell ρb).trans ρe);have hq5:w'.cell? ⟨w,6,none⟩=some (ι υ (hi (c.r.t.Y))):=((f'.cell ρb).trans ρe);have hq6:w'.cell? ⟨w,7,none⟩=some (ι υ (lo (c.r.t.Y))):=((f'.cell ρb).trans ρe);have hq7:w'.cell? ⟨w,8,none⟩=some (ι υ c.r.t.M):=((f'.cell ρb).trans ρe);have hq8:w'.cell? ⟨w,9,none⟩=some (β c.r.b):=((f'.cell ρb).trans ρe);clear f')
   | (go_at_call 218;(with_reducible refine(iI c.r q T _ oc Zj HT.out).mono ?_);refine bf ?_;intro w' f' KK KJ;have KA:=A1.tr f';have rA:=KA.r;have KT:=R1.tr f';have rR:=KT.r;have NU:w'.cell? ⟨w,1,none⟩=some (ι υ c.r.f.X):=((f'.cell ρb).trans ρe);have LZ:w'.cell? ⟨w,2,none⟩=some (ι υ (hi (c.r.f.Y))):=((f'.cell ρb).trans ρe);have MQ:w'.cell? ⟨w,3,none⟩=some (ι υ (lo (c.r.f.Y))):=((f'.cell ρb).trans ρe);have hq3:w'.cell? ⟨w,4,none⟩=some (ι υ c.r.f.M):=((f'.cell ρb).trans ρe);have hq4:w'.cell? ⟨w,5,none⟩=some (ι υ c.r.t.X):=((f'.cell ρb).trans ρe);have hq5:w'.cell? ⟨w,6,none⟩=some (ι υ (hi (c.r.t.Y))):=((f'.cell ρb).trans ρe);have hq6:w'.cell? ⟨w,7,none⟩=some (ι υ (lo (c.r.t.Y))):=((f'.cell ρb).trans ρe);have hq7:w'.cell? ⟨w,8,none⟩=some (ι υ c.r.t.M):=((f'.cell ρb).trans ρe);have hq8:w'.cell? ⟨w,9,none⟩=some (β c.r.b):=((f'.cell ρb).trans ρe);clear f'))
 all_goals
  go_upto_region 3 with (fail);refine aI (λv=>Below w w v/\ah v w (eX true c.r T) 242/\ah v (w+1) mf 242) ⟨ρE,ρB,ρB⟩ ?_;rintro w2 ⟨g2,A2,R2⟩;have Li:=g2.size;replace Rr:=θ2 A2.r R2.r;go_wp2;exact Eb (w+1) (eX true c.r T) 242 rfl (λ_ cv=>(by simp[results,Tryz.results163,go_sem,cv]))
theorem kL (c r:CH)(p:Int)(w:ϖ)(hp:an p)(oc:c.r.ok)(hr:c.fit p=r):
  CB 163 #[jS c,p] w (jS r):=by
 subst hr;rcases h:c.has with _|_
 ·refine(sY c p _ _ w hp h oc rfl rfl).mono λe w' ⟨h1,h2⟩=>⟨h1.trans (lx ?_),h2⟩;simp only[jS,CH.fit,h,Bool.false_eq_true,if_false]
 ·refine(uK c p _ _ w hp h oc rfl rfl).mono λe w' ⟨h1,h2⟩=>⟨h1.trans (lx ?_),h2⟩;simp only[jS,CH.fit,h,if_true]
theorem uM (c:CH)(m d n now p q T k:Int)(s u:RN)(w:ϖ)(hm:an m)(hd:an d)(hn:an n)(hl:0<=now/\now<=Mc)(hp:an p)(hk:kd m d n=k)(hq:p*65536=q)(hs:RN.start m d n now q=s)(h2:k<2)(k0:0<=k)(os:s.ok):
  CB 158 #[jS c,φ (aH m d n),now,p] w (φ mf):=by
 have Zj:ai q:=ρ9;have Hq:=ag hq;have Hs:=ag hs;have Hk:=ag hk;clear hq hs hk;unfold CB;go_in;go_upto_region 1 with (fail);go_cut [9] (λp9 wx=>∃X:Nat,p9=X/\w.heap.size+1+1<X/\Below w w wx/\ah wx w (eX c.has c.r c.t) 242/\ah wx (w+1) (aH m d n) 41/\ah wx (w+1+1) mf 242/\ah wx X (gd s) 236);case first=>
  go_region_held3 (λv=>Bk v w (eX c.has c.r c.t) 242/\Bk v (w+1) (aH m d n) 41/\Bk v (w+1+1) mf 242/\Below w w v) (exact ρH)
   (first
    | (go_at_call 211;(with_reducible refine(gF p 65536 q _ hp ρa Hq.out).mono ?_);refine bf ?_;intro w' f' KK KJ;(try have hX:=Xb f');(try simp only[World.size_alloc] at hX);(try have rX:=hX.r))
    | (go_at_call 205;(with_reducible refine(ew m d n now q s _ hm hd hn hl Zj Hs.out).mono ?_);refine bf ?_;intro w' f' KK KJ;(try have hX:=Xb f');(try simp only[World.size_alloc] at hX);(try have rX:=hX.r)))
  all_goals
   (try go_split_ands);go_wp2;go_meet;exact⟨_,rfl,ρb,ρE,ρB,ρB,ρB,ρB⟩
 case rest=>
  obtain⟨PX,rfl,lX,g1,A1,C1,R1,X1⟩:=hcut;refine δT ?_;intro KN Rr cX fX zX;go_wp2_with fail;refine δs ?_;rintro e w2 ⟨rfl,Kx⟩;have R2:ah w2 (w+1+1) mf 242:=Zv Kx;refine η9 ?_;intro g2 Li;clear Kx;replace Rr:=R2.r;by_cases e0:k=0
  ·have d0:(k==0)=true:=beq_iff_eq.2 e0;go_wp2;exact Eb (w+1+1) mf 242 rfl σ8
  ·have d0:(k==0)=false:=qN.2 e0;have d1:(k==1)=true:=beq_iff_eq.2 ρa;go_wp2;exact Eb (w+1+1) mf 242 rfl σ8
theorem sZ (c:CH)(m d n now p q T k:Int)(s u:RN)(w:ϖ)(hm:an m)(hd:an d)(hn:an n)(hl:0<=now/\now<=Mc)(hp:an p)(hk:kd m d n=k)(hc:c.has=false)(hq:p*65536=q)(hs:RN.start m d n now q=s)(h2:¬k<2)(os:s.ok)(os':RN.ok s)(hT:s.reach q=T):
  CB 158 #[φ (eX c.has c.r c.t),φ (aH m d n),now,p] w (φ (eX true s T)):=by
 have Zj:ai q:=ρ9;have tk:∀v,CB 163 #[φ (eX true s 0),p] v (φ (eX true s T)):=λv=>
  kL ⟨true,s,0⟩ ⟨true,s,T⟩ p v hp os' (by rw[<- hT,<- hq];rfl)
 have Htk:=ag tk;have Hq:=ag hq;have Hs:=ag hs;have Hk:=ag hk;clear hq hs hT hk tk;have d0:(k==0)=false:=qN.2 ρa;have d1:(k==1)=false:=qN.2 ρa;rw[hc];clear hc;unfold CB;go_in;go_upto_region 1 with (fail);go_cut [9] (λp9 wx=>∃X:Nat,p9=X/\w.heap.size+1+1<X/\Below w w wx/\ah wx w (eX false c.r c.t) 242/\ah wx (w+1) (aH m d n) 41/\ah wx (w+1+1) mf 242/\ah wx X (gd s) 236);case first=>
  go_region_held3 (λv=>Bk v w (eX false c.r c.t) 242/\Bk v (w+1) (aH m d n) 41/\Bk v (w+1+1) mf 242/\Below w w v) (exact ρH)
   (first
    | (go_at_call 211;(with_reducible refine(gF p 65536 q _ hp ρa Hq.out).mono ?_);refine bf ?_;intro w' f' KK KJ;(try have hX:=Xb f');(try simp only[World.size_alloc] at hX);(try have rX:=hX.r))
    | (go_at_call 205;(with_reducible refine(ew m d n now q s _ hm hd hn hl Zj Hs.out).mono ?_);refine bf ?_;intro w' f' KK KJ;(try have hX:=Xb f');(try simp only[World.size_alloc] at hX);(try have rX:=hX.r)))
  all_goals
   (try go_split_ands);go_wp2;go_meet;exact⟨_,rfl,ρb,ρE,ρB,ρB,ρB,ρB⟩
 case rest=>
  obtain⟨PX,rfl,lX,g1,A1,C1,R1,X1⟩:=hcut;refine δT ?_;intro KN Rr cX fX zX;go_wp2_with fail;refine δs ?_;rintro e w2 ⟨rfl,Kx⟩;have A2:ah w2 w (eX false c.r c.t) 242:=Zv Kx;have R2:ah w2 (w+1+1) mf 242:=Zv Kx;have X2:ah w2 (PX) (gd s) 236:=Zv Kx;refine η9 ?_;intro g2 Li;clear Kx;replace Rr:=θ2 A2.r R2.r;replace cX:=X2.cell;replace fX:=X2.frozen;replace zX:=X2.size;go_wp2_with fail;refine(Htk.out _).mono ?_;rintro e w5 ⟨rfl,Lq⟩;have R5:=R2.tr Lq;have g5:=Tg w Lq;have SK:=Lq.size;(try simp at SK);clear Lq;replace Rr:=R5.r;go_wp2;exact Eb (w+1+1) (eX true s T) 242 rfl σ8
theorem uN (c:CH)(m d n now p q T k:Int)(s u:RN)(w:ϖ)(hm:an m)(hd:an d)(hn:an n)(hl:0<=now/\now<=Mc)(hp:an p)(hk:kd m d n=k)(hc:c.has=true)(hq:p*65536=q)(hs:RN.start m d n now q=s)(h2:¬k<2)(os:s.ok)(oc:c.r.ok)(hu:RN.meet c.r s=u)(ou':RN.ok u)(hT:u.reach q=T):
  CB 158 #[φ (eX c.has c.r c.t),φ (aH m d n),now,p] w (φ (eX true u T)):=by
 have Zj:ai q:=ρ9;have tk:∀v,CB 163 #[φ (eX true u 0),p] v (φ (eX true u T)):=λv=>
  kL ⟨true,u,0⟩ ⟨true,u,T⟩ p v hp ou' (by rw[<- hT,<- hq];rfl)
 have Htk:=ag tk;have Hq:=ag hq;have Hs:=ag hs;have Hk:=ag hk;clear hq hs hT hk tk;have Hu:=ag hu;clear hu;have d0:(k==0)=false:=qN.2 ρa;have d1:(k==1)=false:=qN.2 ρa;rw[hc];clear hc;unfold CB;go_in;go_upto_region 1 with (fail);go_cut [9] (λp9 wx=>∃X:Nat,p9=X/\w.heap.size+1+1<X/\Below w w wx/\ah wx w (eX true c.r c.t) 242/\ah wx (w+1) (aH m d n) 41/\ah wx (w+1+1) mf 242/\ah wx X (gd s) 236);case first=>
  go_region_held3 (λv=>Bk v w (eX true c.r c.t) 242/\Bk v (w+1) (aH m d n) 41/\Bk v (w+1+1) mf 242/\Below w w v) (exact ρH)
   (first
    | (go_at_call 211;(with_reducible refine(gF p 65536 q _ hp ρa Hq.out).mono ?_);refine bf ?_;intro w' f' KK KJ;(try have hX:=Xb f');(try simp only[World.size_alloc] at hX);(try have rX:=hX.r))
    | (go_at_call 205;(with_reducible refine(ew m d n now q s _ hm hd hn hl Zj Hs.out).mono ?_);refine bf ?_;intro w' f' KK KJ;(try have hX:=Xb f');(try simp only[World.size_alloc] at hX);(try have rX:=hX.r)))
  all_goals
   (try go_split_ands);go_wp2;go_meet;exact⟨_,rfl,ρb,ρE,ρB,ρB,ρB,ρB⟩
 case rest=>
  obtain⟨PX,rfl,lX,g1,A1,C1,R1,X1⟩:=hcut;refine δT ?_;intro KN Rr cX fX zX;go_wp2_with fail;refine δs ?_;rintro e w2 ⟨rfl,Kx⟩;have A2:ah w2 w (eX true c.r c.t) 242:=Zv Kx;have R2:ah w2 (w+1+1) mf 242:=Zv Kx;have X2:ah w2 (PX) (gd s) 236:=Zv Kx;refine η9 ?_;intro g2 Li;clear Kx;replace Rr:=θ2 A2.r R2.r;replace cX:=X2.cell;replace fX:=X2.frozen;replace zX:=X2.size;go_wp2_with fail;refine(mw c.r s u _ oc os Hu.out).mono ?_;rintro e w3 ⟨rfl,Lw⟩;have R3:=R2.tr Lw;have X3:=X2.tr Lw;refine δZ ?_;intro g3 NW;clear Lw;replace Rr:=R3.r;replace cX:=X3.cell;replace fX:=X3.frozen;replace zX:=X3.size;go_upto_region 8 with (fail);refine aI (λv=>Below w w v/\ah v (w+1+1) mf 242/\ah v (PX) (gd u) 236) ⟨ρE,ρB,ρB⟩ ?_;rintro w4 ⟨g4,R4,X4⟩;have Sc:=g4.size;replace Rr:=R4.r;replace cX:=X4.cell;replace fX:=X4.frozen;replace zX:=X4.size;go_wp2_with fail;refine(Htk.out _).mono ?_;rintro e w5 ⟨rfl,Lq⟩;have R5:=R4.tr Lq;have g5:=Tg w Lq;have SK:=Lq.size;(try simp at SK);clear Lq;replace Rr:=R5.r;go_wp2;exact Eb (w+1+1) (eX true u T) 242 rfl σ8
theorem xE (c r:CH)(m d n now p:Int)(w:ϖ)(hm:an m)(hd:an d)(hn:an n)(hl:0<=now/\now<=Mc)(hp:an p)(oc:c.r.ok)(hr:c.capped m d n now p=r):
  CB 158 #[jS c,φ (aH m d n),now,p] w (jS r):=by
 subst hr;have os:=RN.start_ok (m:=m) (d:=d) (n:=n) (x:=now) (y:=p*65536) hm hd.1 hn hl (ja hp);have s0:RN:=RN.start m d n now (p*65536);by_cases h2:kd m d n<2
 ·refine(uM c m d n now p _ 0 _ _ s0 w hm hd hn hl hp rfl rfl rfl h2 (eP m d n).1 os).mono λe w' ⟨h1,h2'⟩=>⟨h1.trans (lx ?_),h2'⟩;simp only[jS,CH.capped,h2,if_true,CH.zero];rfl
 ·rcases h:c.has with _|_
  ·have:=sZ c m d n now p _ _ _ _ s0 w hm hd hn hl hp rfl h rfl rfl h2 os os rfl;refine this.mono λe w' ⟨h1,h2'⟩=>⟨h1.trans (lx ?_),h2'⟩;simp only[jS,CH.capped,h,h2,Bool.false_eq_true,if_false]
  ·have:=uN c m d n now p _ _ _ _ _ w hm hd hn hl hp rfl h rfl rfl h2 os oc rfl (RN.meet_ok oc os) rfl;refine this.mono λe w' ⟨h1,h2'⟩=>⟨h1.trans (lx ?_),h2'⟩;simp only[jS,CH.capped,h,h2,if_true,if_false]
theorem wC (a b r:Int)(w:ϖ)(hr:max a b=r):Calls Ψ 257 #[a,b] w λx w'=>x=ϰ r/\Below w w w':=by
 have Hr:=ag hr;clear hr;by_cases h:a<b
 ·exact ηC
 ·exact ηC
end Go.Proofs.YtfdlemkplejdnaaGreat
