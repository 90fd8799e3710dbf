/- WholeDelay, part 9. Conditions: none. -/
import Derived.Test.YtfdlemkplejdnaaGreatA3
import Derived.Test.YtfdlemkplejdnaaGreatA5
namespace Go.Proofs.YtfdlemkplejdnaaGreat
open Go.RowKit Go.Sort
open Value renaming int->ι,pointer->ψ,slice->ζ,tuple->χ,agg->φ,map->μ,bool->β
open IntKind renaming u64->υ,i64->ε,u16->ω
open Ending renaming returned->ϰ
open Go.Proofs.Tryz renaming prog->Ψ,underlying3->Θ,underlying147->Δ,underlying152->Γ,underlying202->Φ,underlying39->Ξ,underlying207->Ω
open Go renaming World->ϖ,Value->ϗ
set_option linter.unusedVariables false
set_option linter.unusedSimpArgs false
set_option maxHeartbeats 8000000
set_option maxRecDepth 100000
def pC (lf P B Z Y R L U:Bool):Int:=if ((lf && !(P && B && (R || L))) || (!lf && !(Z && Y && !R)) || (U && !L))=true then 29 else 0
theorem Ah (id par:Int)(lf:Bool)(r l u pk by_:Int)(Ou:1<=id/\id<=65536)(Kt:0<=par/\par<=65536)(JX:id≠par)(hr:0<=r/\r<=4)(hl:0<=l/\l<=4)(hu:0<=u/\u<=4)(qr:r≠0)(ql:l≠0)(qu:u≠0)(sl:l≠4)(su:u≠4):
  wr id par lf r l u pk by_=pC lf (qf pk 1 64) (qf by_ 1 1048576) (pk==0) (by_==0) (de r) (de l) (de u):=by
 have e0:(pk==0)=decide (pk=0):=rfl;have e1:(by_==0)=decide (by_=0):=rfl;rw[e0,e1];unfold wr pC qf de;rw[ZI ρa,ZI ρa];cases lf
 ·by_cases a:pk=0<;>by_cases b:by_=0<;>by_cases c:1<r<;>by_cases d:1<l<;>by_cases e:1<u<;>simp[a,b,c,d,e]<;>(repeat' split)<;>omega
 ·by_cases a:1<=pk/\pk<=64<;>by_cases b:1<=by_/\by_<=1048576<;>by_cases c:1<r<;>by_cases d:1<l<;>by_cases e:1<u<;>simp[a,b,c,d,e]<;>(repeat' split)<;>omega
theorem mU (id par:Int)(r0 r1 r2 l0 l1 l2 u0 u1 u2 pk by_:Int)(w:ϖ)(hr:0<=r0/\0<=r1/\0<=r2)(hl:0<=l0/\0<=l1/\0<=l2)(hu:0<=u0/\0<=u1/\0<=u2)(Ou:1<=id/\id<=65536)(Kt:0<=par/\par<=65536)(JX:id≠par)(qr:(kd r0 r1 r2 !=0)=true)(ql:(kd l0 l1 l2 !=0)=true)(qu:(kd u0 u1 u2 !=0)=true)(sl:(kd l0 l1 l2==4)=false)(su:(kd u0 u1 u2==4)=false):
  CB 175 #[cls id par true r0 r1 r2 l0 l1 l2 u0 u1 u2 pk by_] w (ι ε (wr id par true (kd r0 r1 r2) (kd l0 l1 l2) (kd u0 u1 u2) pk by_)):=by
 rw[Ah id par true (kd r0 r1 r2) (kd l0 l1 l2) (kd u0 u1 u2) pk by_ Ou Kt JX (eK _ _ _) (eK _ _ _) (eK _ _ _) (bne_iff_ne.1 qr) (bne_iff_ne.1 ql) (bne_iff_ne.1 qu) (ZN.1 sl) (ZN.1 su)];refine ηX ?_;intro f1 f2 f3 i0 i1 i2;unfold CB;go_in;go_wp2_with (first|(go_at_call 229;refine(aI _ _ _ _).mono ?_;rintro e w' ⟨rfl,rfl⟩));refine wp_loop_rounds 4 ?_;rw[cU];go_wp2_with fail;refine(bI r0 r1 r2 _ hr true qr).mono ?_;rintro e w1 ⟨rfl,JL⟩;have A1:ah w1 w (kR id par true r0 r1 r2 l0 l1 l2 u0 u1 u2 pk by_) 43:=Zv JL;refine ηY ?_;intro g1 J3;clear JL;have Rr:=A1.r;go_wp2;rw[cU];go_wp2_with fail;refine δl ?_;intro w2 JR A2 NR;refine η6 ?_;intro g2 KN;clear JR;replace Rr:=θ2 A2.r NR.r;go_wp2_with fail;refine δe ?_;clear Rr;intro w3 A3 Pr g3 MU Rr;go_wp2;rw[cU];go_wp2_with fail;refine(bI u0 u1 u2 _ hu true qu).mono ?_;refine δr ?_;clear Rr;intro w4 A4 P9 g4 SI Rr;go_wp2_with fail;refine δA ?_;clear Rr;intro w5 A5 Sm g5 RP Rr;go_wp2;refine bX (λv=>Below w w v/\ah v w (kR id par true r0 r1 r2 l0 l1 l2 u0 u1 u2 pk by_) 43) ⟨ρE,ρB⟩ ?_;clear i0 i1 i2 A1 A2 A3 A4 A5 NR Pr P9 Sm g1 g2 g3 g4 g5 f1 f2 f3;rintro w9 ⟨g9,A9⟩;have Ss:=A9.r;rw[cU];rcases gp:qf pk 1 64 with _|_
 ·rcases gz:(pk==0) with _|_
  ·go_wp2_with (first|(go_at_call 229;refine(aI _ _ _ _).mono ?_;rintro e w' ⟨rfl,rfl⟩)|(go_at_call 118;refine(bi id par true r0 r1 r2 l0 l1 l2 u0 u1 u2 pk by_ _ hr).mono ?_;refine bm ?_;intro w' f' JZ JY;have JQ:=A9.tr f';have rA:=JQ.r;clear f')|(go_at_call 105;refine(aN id par true r0 r1 r2 l0 l1 l2 u0 u1 u2 pk by_ _ hl).mono ?_;refine bm ?_;intro w' f' JZ JY;have JQ:=A9.tr f';have rA:=JQ.r;clear f')|(go_at_call 230;refine(aK id par true r0 r1 r2 l0 l1 l2 u0 u1 u2 pk by_ _ hu).mono ?_;refine bm ?_;intro w' f' JZ JY;have JQ:=A9.tr f';have rA:=JQ.r;clear f'));go_ret;exact⟨dS (by rw[gp,gz];simp[pC]),ρE⟩
  ·rcases gy:(by_==0) with _|_
   ·go_wp2_with (first|(go_at_call 229;refine(aI _ _ _ _).mono ?_;rintro e w' ⟨rfl,rfl⟩)|(go_at_call 118;refine(bi id par true r0 r1 r2 l0 l1 l2 u0 u1 u2 pk by_ _ hr).mono ?_;refine bm ?_;intro w' f' JZ JY;have JQ:=A9.tr f';have rA:=JQ.r;clear f')|(go_at_call 105;refine(aN id par true r0 r1 r2 l0 l1 l2 u0 u1 u2 pk by_ _ hl).mono ?_;refine bm ?_;intro w' f' JZ JY;have JQ:=A9.tr f';have rA:=JQ.r;clear f')|(go_at_call 230;refine(aK id par true r0 r1 r2 l0 l1 l2 u0 u1 u2 pk by_ _ hu).mono ?_;refine bm ?_;intro w' f' JZ JY;have JQ:=A9.tr f';have rA:=JQ.r;clear f'));go_ret;exact⟨dS (by rw[gp,gz,gy];simp[pC]),ρE⟩
   ·rcases gr:de (kd r0 r1 r2) with _|_
    ·exact ξp
    ·exact ξp
 ·have gz:(pk==0)=false:=by have:=of_decide_eq_true gp;exact ZN.2 ρa
  rcases gb:qf by_ 1 1048576 with _|_
  ·go_wp2_with (first|(go_at_call 229;refine(aI _ _ _ _).mono ?_;rintro e w' ⟨rfl,rfl⟩)|(go_at_call 118;refine(bi id par true r0 r1 r2 l0 l1 l2 u0 u1 u2 pk by_ _ hr).mono ?_;refine bm ?_;intro w' f' JZ JY;have JQ:=A9.tr f';have rA:=JQ.r;clear f')|(go_at_call 105;refine(aN id par true r0 r1 r2 l0 l1 l2 u0 u1 u2 pk by_ _ hl).mono ?_;refine bm ?_;intro w' f' JZ JY;have JQ:=A9.tr f';have rA:=JQ.r;clear f')|(go_at_call 230;refine(aK id par true r0 r1 r2 l0 l1 l2 u0 u1 u2 pk by_ _ hu).mono ?_;refine bm ?_;intro w' f' JZ JY;have JQ:=A9.tr f';have rA:=JQ.r;clear f'));go_ret;exact⟨dS (by rw[gp,gz,gb];simp[pC]),ρE⟩
  ·rcases gr:de (kd r0 r1 r2) with _|_
   ·rcases gl:de (kd l0 l1 l2) with _|_
    ·go_wp2_with (first|(go_at_call 229;refine(aI _ _ _ _).mono ?_;rintro e w' ⟨rfl,rfl⟩)|(go_at_call 118;refine(bi id par true r0 r1 r2 l0 l1 l2 u0 u1 u2 pk by_ _ hr).mono ?_;refine bm ?_;intro w' f' JZ JY;have JQ:=A9.tr f';have rA:=JQ.r;clear f')|(go_at_call 105;refine(aN id par true r0 r1 r2 l0 l1 l2 u0 u1 u2 pk by_ _ hl).mono ?_;refine bm ?_;intro w' f' JZ JY;have JQ:=A9.tr f';have rA:=JQ.r;clear f')|(go_at_call 230;refine(aK id par true r0 r1 r2 l0 l1 l2 u0 u1 u2 pk by_ _ hu).mono ?_;refine bm ?_;intro w' f' JZ JY;have JQ:=A9.tr f';have rA:=JQ.r;clear f'));go_ret;exact⟨dS (by rw[gp,gz,gb,gr,gl];simp[pC]),ρE⟩
    ·rcases gu:de (kd u0 u1 u2) with _|_
     ·exact ξm
     ·exact ξm
   ·rcases gu:de (kd u0 u1 u2) with _|_
    ·go_wp2_with (first|(go_at_call 229;refine(aI _ _ _ _).mono ?_;rintro e w' ⟨rfl,rfl⟩)|(go_at_call 118;refine(bi id par true r0 r1 r2 l0 l1 l2 u0 u1 u2 pk by_ _ hr).mono ?_;refine bm ?_;intro w' f' JZ JY;have JQ:=A9.tr f';have rA:=JQ.r;clear f')|(go_at_call 105;refine(aN id par true r0 r1 r2 l0 l1 l2 u0 u1 u2 pk by_ _ hl).mono ?_;refine bm ?_;intro w' f' JZ JY;have JQ:=A9.tr f';have rA:=JQ.r;clear f')|(go_at_call 230;refine(aK id par true r0 r1 r2 l0 l1 l2 u0 u1 u2 pk by_ _ hu).mono ?_;refine bm ?_;intro w' f' JZ JY;have JQ:=A9.tr f';have rA:=JQ.r;clear f'));go_ret;exact⟨dS (by rw[gp,gz,gb,gr,gu];simp[pC]),ρE⟩
    ·rcases gl:de (kd l0 l1 l2) with _|_
     ·exact ξn
     ·exact ξn
theorem mj (id par:Int)(r0 r1 r2 l0 l1 l2 u0 u1 u2 pk by_:Int)(w:ϖ)(hr:0<=r0/\0<=r1/\0<=r2)(hl:0<=l0/\0<=l1/\0<=l2)(hu:0<=u0/\0<=u1/\0<=u2)(Ou:1<=id/\id<=65536)(Kt:0<=par/\par<=65536)(JX:id≠par)(qr:(kd r0 r1 r2 !=0)=true)(ql:(kd l0 l1 l2 !=0)=true)(qu:(kd u0 u1 u2 !=0)=true)(sl:(kd l0 l1 l2==4)=false)(su:(kd u0 u1 u2==4)=false):
  CB 175 #[cls id par false r0 r1 r2 l0 l1 l2 u0 u1 u2 pk by_] w (ι ε (wr id par false (kd r0 r1 r2) (kd l0 l1 l2) (kd u0 u1 u2) pk by_)):=by
 rw[Ah id par false (kd r0 r1 r2) (kd l0 l1 l2) (kd u0 u1 u2) pk by_ Ou Kt JX (eK _ _ _) (eK _ _ _) (eK _ _ _) (bne_iff_ne.1 qr) (bne_iff_ne.1 ql) (bne_iff_ne.1 qu) (ZN.1 sl) (ZN.1 su)];refine ηX ?_;intro f1 f2 f3 i0 i1 i2;unfold CB;go_in;go_wp2_with (first|(go_at_call 229;refine(aI _ _ _ _).mono ?_;rintro e w' ⟨rfl,rfl⟩));refine wp_loop_rounds 4 ?_;rw[cU];go_wp2_with fail;refine(bI r0 r1 r2 _ hr true qr).mono ?_;rintro e w1 ⟨rfl,JL⟩;have A1:ah w1 w (kR id par false r0 r1 r2 l0 l1 l2 u0 u1 u2 pk by_) 43:=Zv JL;refine ηY ?_;intro g1 J3;clear JL;have Rr:=A1.r;go_wp2;rw[cU];go_wp2_with fail;refine δl ?_;intro w2 JR A2 NR;refine η6 ?_;intro g2 KN;clear JR;replace Rr:=θ2 A2.r NR.r;go_wp2_with fail;refine δe ?_;clear Rr;intro w3 A3 Pr g3 MU Rr;go_wp2;rw[cU];go_wp2_with fail;refine(bI u0 u1 u2 _ hu true qu).mono ?_;refine δr ?_;clear Rr;intro w4 A4 P9 g4 SI Rr;go_wp2_with fail;refine δA ?_;clear Rr;intro w5 A5 Sm g5 RP Rr;go_wp2;refine bX (λv=>Below w w v/\ah v w (kR id par false r0 r1 r2 l0 l1 l2 u0 u1 u2 pk by_) 43) ⟨ρE,ρB⟩ ?_;clear i0 i1 i2 A1 A2 A3 A4 A5 NR Pr P9 Sm g1 g2 g3 g4 g5 f1 f2 f3;rintro w9 ⟨g9,A9⟩;have Ss:=A9.r;rw[cU];rcases gp:qf pk 1 64 with _|_
 ·rcases gz:(pk==0) with _|_
  ·go_wp2_with (first|(go_at_call 229;refine(aI _ _ _ _).mono ?_;rintro e w' ⟨rfl,rfl⟩)|(go_at_call 118;refine(bi id par false r0 r1 r2 l0 l1 l2 u0 u1 u2 pk by_ _ hr).mono ?_;refine bm ?_;intro w' f' JZ JY;have JQ:=A9.tr f';have rA:=JQ.r;clear f')|(go_at_call 105;refine(aN id par false r0 r1 r2 l0 l1 l2 u0 u1 u2 pk by_ _ hl).mono ?_;refine bm ?_;intro w' f' JZ JY;have JQ:=A9.tr f';have rA:=JQ.r;clear f')|(go_at_call 230;refine(aK id par false r0 r1 r2 l0 l1 l2 u0 u1 u2 pk by_ _ hu).mono ?_;refine bm ?_;intro w' f' JZ JY;have JQ:=A9.tr f';have rA:=JQ.r;clear f'));go_ret;exact⟨dS (by rw[gp,gz];simp[pC]),ρE⟩
  ·rcases gy:(by_==0) with _|_
   ·go_wp2_with (first|(go_at_call 229;refine(aI _ _ _ _).mono ?_;rintro e w' ⟨rfl,rfl⟩)|(go_at_call 118;refine(bi id par false r0 r1 r2 l0 l1 l2 u0 u1 u2 pk by_ _ hr).mono ?_;refine bm ?_;intro w' f' JZ JY;have JQ:=A9.tr f';have rA:=JQ.r;clear f')|(go_at_call 105;refine(aN id par false r0 r1 r2 l0 l1 l2 u0 u1 u2 pk by_ _ hl).mono ?_;refine bm ?_;intro w' f' JZ JY;have JQ:=A9.tr f';have rA:=JQ.r;clear f')|(go_at_call 230;refine(aK id par false r0 r1 r2 l0 l1 l2 u0 u1 u2 pk by_ _ hu).mono ?_;refine bm ?_;intro w' f' JZ JY;have JQ:=A9.tr f';have rA:=JQ.r;clear f'));go_ret;exact⟨dS (by rw[gp,gz,gy];simp[pC]),ρE⟩
   ·rcases gr:de (kd r0 r1 r2) with _|_
    ·rcases gu:de (kd u0 u1 u2) with _|_
     ·go_wp2_with (first|(go_at_call 229;refine(aI _ _ _ _).mono ?_;rintro e w' ⟨rfl,rfl⟩)|(go_at_call 118;refine(bi id par false r0 r1 r2 l0 l1 l2 u0 u1 u2 pk by_ _ hr).mono ?_;refine bm ?_;intro w' f' JZ JY;have JQ:=A9.tr f';have rA:=JQ.r;clear f')|(go_at_call 105;refine(aN id par false r0 r1 r2 l0 l1 l2 u0 u1 u2 pk by_ _ hl).mono ?_;refine bm ?_;intro w' f' JZ JY;have JQ:=A9.tr f';have rA:=JQ.r;clear f')|(go_at_call 230;refine(aK id par false r0 r1 r2 l0 l1 l2 u0 u1 u2 pk by_ _ hu).mono ?_;refine bm ?_;intro w' f' JZ JY;have JQ:=A9.tr f';have rA:=JQ.r;clear f'));go_ret;exact⟨dS (by rw[gp,gz,gy,gr,gu];simp[pC]),ρE⟩
     ·rcases gl:de (kd l0 l1 l2) with _|_
      ·exact ξl
      ·exact ξl
    ·go_wp2_with (first|(go_at_call 229;refine(aI _ _ _ _).mono ?_;rintro e w' ⟨rfl,rfl⟩)|(go_at_call 118;refine(bi id par false r0 r1 r2 l0 l1 l2 u0 u1 u2 pk by_ _ hr).mono ?_;refine bm ?_;intro w' f' JZ JY;have JQ:=A9.tr f';have rA:=JQ.r;clear f')|(go_at_call 105;refine(aN id par false r0 r1 r2 l0 l1 l2 u0 u1 u2 pk by_ _ hl).mono ?_;refine bm ?_;intro w' f' JZ JY;have JQ:=A9.tr f';have rA:=JQ.r;clear f')|(go_at_call 230;refine(aK id par false r0 r1 r2 l0 l1 l2 u0 u1 u2 pk by_ _ hu).mono ?_;refine bm ?_;intro w' f' JZ JY;have JQ:=A9.tr f';have rA:=JQ.r;clear f'));go_ret;exact⟨dS (by rw[gp,gz,gy,gr];simp[pC]),ρE⟩
 ·have gz:(pk==0)=false:=by have:=of_decide_eq_true gp;exact ZN.2 ρa
  rcases gb:qf by_ 1 1048576 with _|_
  ·go_wp2_with (first|(go_at_call 229;refine(aI _ _ _ _).mono ?_;rintro e w' ⟨rfl,rfl⟩)|(go_at_call 118;refine(bi id par false r0 r1 r2 l0 l1 l2 u0 u1 u2 pk by_ _ hr).mono ?_;refine bm ?_;intro w' f' JZ JY;have JQ:=A9.tr f';have rA:=JQ.r;clear f')|(go_at_call 105;refine(aN id par false r0 r1 r2 l0 l1 l2 u0 u1 u2 pk by_ _ hl).mono ?_;refine bm ?_;intro w' f' JZ JY;have JQ:=A9.tr f';have rA:=JQ.r;clear f')|(go_at_call 230;refine(aK id par false r0 r1 r2 l0 l1 l2 u0 u1 u2 pk by_ _ hu).mono ?_;refine bm ?_;intro w' f' JZ JY;have JQ:=A9.tr f';have rA:=JQ.r;clear f'));go_ret;exact⟨dS (by rw[gp,gz,gb];simp[pC]),ρE⟩
  ·rcases gr:de (kd r0 r1 r2) with _|_
   ·rcases gl:de (kd l0 l1 l2) with _|_
    ·exact ξo
    ·exact ξo
   ·go_wp2_with (first|(go_at_call 229;refine(aI _ _ _ _).mono ?_;rintro e w' ⟨rfl,rfl⟩)|(go_at_call 118;refine(bi id par false r0 r1 r2 l0 l1 l2 u0 u1 u2 pk by_ _ hr).mono ?_;refine bm ?_;intro w' f' JZ JY;have JQ:=A9.tr f';have rA:=JQ.r;clear f')|(go_at_call 105;refine(aN id par false r0 r1 r2 l0 l1 l2 u0 u1 u2 pk by_ _ hl).mono ?_;refine bm ?_;intro w' f' JZ JY;have JQ:=A9.tr f';have rA:=JQ.r;clear f')|(go_at_call 230;refine(aK id par false r0 r1 r2 l0 l1 l2 u0 u1 u2 pk by_ _ hu).mono ?_;refine bm ?_;intro w' f' JZ JY;have JQ:=A9.tr f';have rA:=JQ.r;clear f'));go_ret;exact⟨dS (by rw[gp,gz,gb,gr];simp[pC]),ρE⟩
section
open Go.ChangeShapes Go.WideShapes Go.ChangeAt Go.RowKit
section
variable {H:Type} {w:ϖ} {base:Nat} {Kj:Nat->Bool} {KU:Bool} {enc:TypeId × ϗ->H}
end
theorem ny (id par:Int)(lf:Bool)(r0 r1 r2 l0 l1 l2 u0 u1 u2 pk by_:Int)(w:ϖ)(hr:0<=r0/\0<=r1/\0<=r2)(hl:0<=l0/\0<=l1/\0<=l2)(hu:0<=u0/\0<=u1/\0<=u2)(c:Int)(h:wr id par lf (kd r0 r1 r2) (kd l0 l1 l2) (kd u0 u1 u2) pk by_=c):
  CB 175 #[cls id par lf r0 r1 r2 l0 l1 l2 u0 u1 u2 pk by_] w (ι ε c):=by
 subst h;by_cases h:id<1\/65536<id\/par<0\/65536<par\/id=par
 ·rw[show wr id par lf (kd r0 r1 r2) (kd l0 l1 l2) (kd u0 u1 u2) pk by_=1 by unfold wr;rw[ZP h]];exact yG id par lf r0 r1 r2 l0 l1 l2 u0 u1 u2 pk by_ w h
 have bad:(kd r0 r1 r2=0\/kd l0 l1 l2=0\/kd u0 u1 u2=0\/kd l0 l1 l2=4\/kd u0 u1 u2=4)->wr id par lf (kd r0 r1 r2) (kd l0 l1 l2) (kd u0 u1 u2) pk by_=21:=by intro hb;unfold wr;rw[ZI h,ZP hb]
 have Ou:1<=id/\id<=65536:=ρa;have Kt:0<=par/\par<=65536:=ρa;have JX:id≠par:=ρa;rcases qr:(kd r0 r1 r2 !=0) with _|_
 ·rw[bad (.inl (by simpa using qr))];exact yJ id par lf r0 r1 r2 l0 l1 l2 u0 u1 u2 pk by_ w hr hl hu Ou Kt JX qr
 rcases ql:(kd l0 l1 l2 !=0) with _|_
 ·rw[bad (.inr (.inl (by simpa using ql)))];exact yH id par lf r0 r1 r2 l0 l1 l2 u0 u1 u2 pk by_ w hr hl hu Ou Kt JX qr ql
 rcases sl:(kd l0 l1 l2==4) with _|_;case true=>rw[bad (.inr (.inr (.inr (.inl (by simpa using sl)))))];exact yI id par lf r0 r1 r2 l0 l1 l2 u0 u1 u2 pk by_ w hr hl hu Ou Kt JX qr ql sl
 rcases qu:(kd u0 u1 u2 !=0) with _|_
 ·rw[bad (.inr (.inr (.inl (by simpa using qu))))];exact yK id par lf r0 r1 r2 l0 l1 l2 u0 u1 u2 pk by_ w hr hl hu Ou Kt JX qr ql qu sl
 rcases su:(kd u0 u1 u2==4) with _|_;case true=>rw[bad (.inr (.inr (.inr (.inr (by simpa using su)))))];exact yL id par lf r0 r1 r2 l0 l1 l2 u0 u1 u2 pk by_ w hr hl hu Ou Kt JX qr ql qu sl su
 cases lf
 ·exact mj id par r0 r1 r2 l0 l1 l2 u0 u1 u2 pk by_ w hr hl hu Ou Kt JX qr ql qu sl su
 ·exact mU id par r0 r1 r2 l0 l1 l2 u0 u1 u2 pk by_ w hr hl hu Ou Kt JX qr ql qu sl su
theorem rb (w:ϖ)(id par:Int)(lf:Bool)(r0 r1 r2 l0 l1 l2 u0 u1 u2 pk by_:Int)(h:0<=r0/\0<=r1/\0<=r2)(b:Bool)(hb:de (kd r0 r1 r2)=b):
  CB 118 #[cls id par lf r0 r1 r2 l0 l1 l2 u0 u1 u2 pk by_] w (β b):=by subst hb;exact bi _ _ _ _ _ _ _ _ _ _ _ _ _ _ w h
theorem lb (w:ϖ)(id par:Int)(lf:Bool)(r0 r1 r2 l0 l1 l2 u0 u1 u2 pk by_:Int)(h:0<=l0/\0<=l1/\0<=l2)(b:Bool)(hb:de (kd l0 l1 l2)=b):
  CB 105 #[cls id par lf r0 r1 r2 l0 l1 l2 u0 u1 u2 pk by_] w (β b):=by subst hb;exact aN _ _ _ _ _ _ _ _ _ _ _ _ _ _ w h
theorem ub (w:ϖ)(id par:Int)(lf:Bool)(r0 r1 r2 l0 l1 l2 u0 u1 u2 pk by_:Int)(h:0<=u0/\0<=u1/\0<=u2)(b:Bool)(hb:de (kd u0 u1 u2)=b):
  CB 230 #[cls id par lf r0 r1 r2 l0 l1 l2 u0 u1 u2 pk by_] w (β b):=by subst hb;exact aK _ _ _ _ _ _ _ _ _ _ _ _ _ _ w h
end
def ig (f:Int)(zs:List Int):Int:=zs.foldl max f
theorem vM (f:Int)(zs:List Int)(z:Int):ig f (zs++[z])=max (ig f zs) z:=by unfold ig;simp
theorem qh (x y:Int)(w:ϖ)(b:Bool)(hb:decide (x<y)=b):Calls Ψ 226 #[x,y] w λe w'=>e=ϰ (β b)/\w=w':=by
 subst hb;have hx:(x !=x)=false:=ρp;have hy:(y !=y)=false:=ρp;have Tt:(x==x)=true:=ρp;have hy':(y==y)=true:=ρp;go_in;go_wp2;go_ret;exact⟨rfl,rfl⟩
theorem xJ {f:Int} {zs:List Int} (hf:aq f)(h:∀z ∈ zs,0<=z/\z<=Ma):0<=ig f zs/\ig f zs<=Ma:=by
 unfold ig
 induction zs generalizing f with
 | nil=>exact hf
 | cons z zs ih=>have hz:=h z ρp;exact ih (f:=max f z) ρa (λy hy=>h y (by simp[hy]))
theorem oJ (f:Int)(a:Option Addr)(len JN:Nat)(zs:List Int)(w:ϖ)(hr:pH w a len zs)(hm:len<=Mb):Calls Ψ 170 #[f,ζ a len JN] w λe w'=>e=ϰ (ig f zs)/\w=w':=by
 obtain⟨JS,hr⟩:=hr;have Nr:ig f (zs.take 0)=f:=rfl;have MP:=ag (show zs.take len=zs from List.take_of_length_le ρa);have SC:=ag JS;clear JS;have hr':=ag hr;clear hr;have hl0':=ag Nr;clear Nr;go_in;go_wp2;go_loop [0,9] (λt i=>∃k:Nat,k<=len/\i=ι ε k/\t=(ig f (zs.take k))) (λ_ i=>len - (intOf i).toNat);case atStart=>exact⟨0,Nat.zero_le _,rfl,rfl⟩
 case round=>
  obtain⟨k,hk,rfl,rfl⟩:=hrel;by_cases JM:k<len
  ·have hs:=mB zs k (by rw[SC.out];exact JM);have Pf:=ag (show ig f (zs.take (k+1))=max (ig f (zs.take k)) (zs.getD k 0) by rw[hs,vM]);clear hs;obtain⟨b,off,rfl,hc⟩:∃b off,a=some ⟨b,off,none⟩/\∀i,i<len->w.cell? ⟨b,off+i,none⟩=some (ι υ (zs.getD i 0)):=by
    rcases hr'.out with h|h
    ·omega
    ·exact h
   have NG:=hc k JM;clear hc;by_cases KQ:ig f (zs.take k)<zs.getD k 0
   ·go_wp2_with fail;refine(qh _ _ _ true (ZT KQ)).mono ?_;rintro e w' ⟨rfl,rfl⟩;go_wp2;go_round;case rel=>exact⟨k+1,by omega,by go_num,by rw[Pf.out];refine ZG _ ?_;show zs.getD k 0=_;omega⟩
    case measure=>simp[intOf];omega
   ·go_wp2_with fail;refine(qh _ _ _ false (ZF (show ¬ig f (zs.take k)<zs.getD k 0 by omega))).mono ?_;rintro e w' ⟨rfl,rfl⟩;go_wp2;go_round;case rel=>exact⟨k+1,by omega,by go_num,by rw[Pf.out];refine ZG _ ?_;omega⟩
    case measure=>simp[intOf];omega
  ·obtain rfl:k=len:=by omega
   go_wp2;go_ret;exact⟨dS (by rw[MP.out]),rfl⟩
theorem uW (w:ϖ) {B:Nat} (zs:List Int)(hB:B=w):pH (w.alloc (.cells (zs.map (Value.int .u64)).toArray 39)) B zs.length zs:=by refine⟨rfl,.inr ⟨B,0,rfl,λi hi=>?_⟩⟩;rw[Nat.zero_add,(ah.alloc_new w _ _ hB).cell i];simp[hi]
theorem Iw (w:ϖ) {B:Nat} (x:Int)(hB:B=w):pH (w.alloc (.cells #[x] 39)) B 1 [x]:=uW w [x] hB
theorem Ix (w:ϖ) {B:Nat} (x y:Int)(hB:B=w):pH (w.alloc (.cells #[x,y] 39)) B 2 [x,y]:=uW w [x,y] hB
def DM (n u d:Int):Int:=min (max (max n u) d) Mc
theorem GA (n u d:Int)(w:ϖ)(hn:aq n)(hu:aq u)(hd:aq d):Calls Ψ 132 (aJ n u d) w λe w'=>e=ϰ (DM n u d)/\Below w w w':=by
 have e1:=ag (show Ao [ig n [u,d]]=DM n u d by simp[Ao,ig,DM];omega);have e2:=ag (show 0<=ig n [u,d]/\ig n [u,d]<=Ma from xJ hn (by intro z hz;simp at hz;omega));go_in;go_wp2_with fail;refine(oJ n _ _ _ [u,d] _ (Ix _ _ _ rfl) ρf).mono ?_;rintro e w' ⟨rfl,rfl⟩;go_wp2_with fail;refine(Dk _ _ _ [ig n [u,d]] _ (Iw _ _ ρp) ρf (by intro z hz;simp at hz;subst hz;exact e2.out)).mono ?_;rintro e w' ⟨rfl,rfl⟩;rw[e1.out];go_wp2;go_ret;exact⟨rfl,ρE⟩
def bA (L:Nat)(w w':ϖ):Prop:=Below L w w'/\∀B,B<w.heap.size->B≠L->w'.heap[B]?=w.heap[B]?
theorem bA.of_below {L:Nat} {w w':ϖ} (h:Below w w w')(hL:L<=w):bA L w w':=⟨h.mono hL,λB hB _=>h.block B hB⟩
theorem bA.trans {L:Nat} {a b c:ϖ} (h:bA L a b)(k:bA L b c):bA L a c:=
 ⟨h.1.trans k.1,λB hB JX=>(k.2 B (ZB hB h.1.size) JX).trans (h.2 B hB JX)⟩
theorem bA.setCell {L:Nat} {a w:ϖ} (h:bA L a w)(i:Nat)(v:ϗ):bA L a (w.setCell ⟨L,i,none⟩ v):=
 ⟨h.1.setCell (ZR _) _,λB hB JX=>by rw[Below.heap_setCell _ _ _ _ JX];exact h.2 B hB JX⟩
theorem bA.drew {L:Nat} {a w:ϖ} (h:bA L a w):bA L a w.drew:=⟨h.1.drew,h.2⟩
theorem Ia (t:Int)(w:ϖ)(ht:1<=t/\t<=65536):Calls Ψ 49 #[ι ε t] w λe w'=>e=ϰ (χ #[w,Kz])/\Below w w w'/\ah w' w #[ι υ (0),ι υ (0),ι υ (0),ι ε (t),ι υ (0)] 160:=by
 have d1:=df (t<1);have d2:=df (65536<t);go_in;go_wp2;go_returns;exact⟨rfl,ρE,ρB⟩
section
theorem xO (L:Nat)(p b k t u:Int)(w:ϖ)(hL:ah w L #[(p),(b),(k),ι ε (t),(u)] 160)(now:Int)(c:Bool)(hc:decide (u<=now)=c):Calls Ψ 54 #[L,now] w λe w'=>e=ϰ (β c)/\w=w':=by
 have cL:=hL.cell;have zL:=hL.size;go_in;go_wp2;go_ret;exact⟨rfl,rfl⟩
theorem DA (L:Nat)(p b k t u:Int)(w:ϖ)(hL:ah w L #[(p),(b),(k),ι ε (t),(u)] 160):Calls Ψ 133 #[L] w λe w'=>e=ϰ u/\w=w':=by
 have cL:=hL.cell;have zL:=hL.size;go_in;go_wp2;go_ret;exact⟨rfl,rfl⟩
theorem HZ (L:Nat)(p b k t u:Int)(w:ϖ)(hL:ah w L #[(p),(b),(k),ι ε (t),(u)] 160)(n y:Int)(hn:0<=n/\n<=16384)(hy:0<=y)(h1:0<=p/\p+1<=Ma)(h2:0<=b/\b+n<=Ma)(h3:0<=k/\k+y<=Ma):Calls Ψ 168 #[L,ι ε n,y] w λe w'=>e=ϰ (χ #[])/\ah w' L #[ι υ (p+1),ι υ (b+n),ι υ (k+y),ι ε (t),(u)] 160/\bA L w w':=by
 have cL:=hL.cell;have zL:=hL.size;have fL:=hL.frozen;go_in;go_wp2;go_end0;exact⟨rfl,ρB,(((bA.of_below (Below.refl _ _) ρa).setCell _ _).setCell _ _).setCell _ _⟩
end
section
theorem xP (id len h0 h1 h2 h3 now:Int)(L:Nat)(p b k t u:Int)(w:ϖ)(hL:ah w L #[(p),(b),(k),ι ε (t),(u)] 160)(hn:0<=now/\now<=4611686018427387904)(hl:1<=len/\len<=16384)(hu:u<=now)(ht:1<=t/\t<=65536)(g1:0<=p/\p+1<=Ma)(g2:0<=b/\b+len<=Ma)(y:Int)(hy:len*t=y)(g3:0<=k/\k+y<=Ma):Calls Ψ 130 #[L,now,GR id len h0 h1 h2 h3] w λe w'=>e=ϰ (χ #[ι υ (now+y),Kz])/\ah w' L #[ι υ (p+1),ι υ (b+len),ι υ (k+y),ι ε (t),ι υ (now+y)] 160/\bA L w w':=by
 have cL:=hL.cell;have zL:=hL.size;have fL:=hL.frozen;have d1:=df (4611686018427387904<now);have hp:0<=len*t/\len*t<=1073741824:=by refine⟨Int.mul_nonneg ρa ρa,?_⟩;have:=Int.mul_le_mul hl.2 ht.2 ρa (by omega:(0:Int)<=16384);omega
 rw[hy] at hp;have hLw:=hL.size;have Hy:=ag hy;clear hy;have ctk:∀v,CB 167 #[GR id len h0 h1 h2 h3,ι ε t] v (χ #[y,Kz]):=λv=>by have:=zq id len h0 h1 h2 h3 t v ht hl;rw[Hy.out] at this;exact this
 have Htk:=ag ctk;clear ctk;go_in;go_wp2_with fail;refine(Bi id len h0 h1 h2 h3 16384 _ 0 (by rw[ZP ρa,ZP hl])).mono ?_;rintro e w1 ⟨rfl,JL⟩;have L1:ah w1 (L) #[(p),(b),(k),ι ε (t),(u)] 160:=Zv JL;have A1:ah w1 w (gM id len h0 h1 h2 h3) 50:=Zv JL;refine ηY ?_;intro g1 J3;clear JL;replace cL:=L1.cell;replace fL:=L1.frozen;replace zL:=L1.size;replace cA:=A1.cell;replace fA:=A1.frozen;replace zA:=A1.size;go_wp2_with fail;refine(xO L p b k t u _ L1 now true (ZT hu)).mono ?_;rintro e u2 ⟨rfl,rfl⟩;go_wp2_with fail;go_region_held3 (λv=>(∀i,v.cell? ⟨L,i,none⟩=#[ι υ (p),ι υ (b),ι υ (k),ι ε (t),ι υ (u)][i]?)/\L<v/\ah v (L) #[(p),(b),(k),ι ε (t),(u)] 160/\(∀i,v.cell? ⟨w,i,none⟩=(gM id len h0 h1 h2 h3)[i]?)/\w.heap.size<v/\ah v w (gM id len h0 h1 h2 h3) 50/\Below w w v)
  (first
   | (refine⟨?_,?_,?_,?_,?_,?_,?_⟩<;>first | (with_reducible assumption) | ((repeat' (first | (with_reducible (first | assumption | exact ah.alloc_new _ _ _ ρ3 | apply ah.drewN | apply ah.drew | apply ah.alloc_old | apply ah.set_same | apply ah.set_other)) | (show (_:Nat)≠_;first | omega | (simp;done) | (simp;omega)) | ((simp only[List.setIfInBounds_toArray,List.set_cons_succ,List.set_cons_zero]);(with_reducible exact rfl)) | (with_reducible exact rfl) | (show (_:Array ϗ)=_;exact rfl)));done) | ((repeat' (first | (with_reducible (first | exact Below.refl _ _ | assumption | refine below_drewN ?_ _ | refine Below.drew ?_ | refine Below.alloc ?_ ?_ _ | refine Below.setCell ?_ ?_ _)) | go_size));done) | omega | (go_simp;done) | (simp;done) | (exact ah.cell ρB)))
  (first
   | (go_at_call 167;(with_reducible refine(Htk.out _).mono ?_);refine bm ?_;intro w' f' JZ JY;have hkL:=L1.tr f';have hqL:=hkL.cell;have hzL:=hkL.size;have JQ:=A1.tr f';have hqA:=JQ.cell;have hzA:=JQ.size;clear f'))
 all_goals
  have fL2:=hkL.frozen;go_wp2_with fail;refine aH (λv=>bA L w v/\ah v L #[(p),(b),(k),ι ε (t),ι υ (now+y)] 160/\ah v w (gM id len h0 h1 h2 h3) 50) ⟨(bA.of_below JZ ρa).setCell _ _,ρB,ρB⟩ ?_;clear cL fL zL cA fA zA hqL hqA fL2 hkL JQ hzL hzA JZ L1 A1 g1;rintro v ⟨K2,L2,A2⟩;have cL:=L2.cell;have cA:=A2.cell;have zL:=L2.size;have zA:=A2.size;go_region_with (first|(go_at_call 168;(with_reducible refine(HZ L p b k t (now+y) _ ρB len y ρa ρa ρa g2 g3).mono ?_);rintro e w3 ⟨rfl,L3,K3⟩;have cL3:=L3.cell;have zL3:=L3.size))
  all_goals
   go_wp2;go_returns;exact⟨rfl,L3,by first|exact K2.trans K3|exact K2.drew.trans K3|exact(K2.drewN _).trans K3⟩
end
end Go.Proofs.YtfdlemkplejdnaaGreat
