/- WholeBehind, part 9. Conditions: none. -/
import Derived.Test.YtfdlemkplejdnaaGreatA3
import Derived.Test.YtfdlemkplejdnaaGreatA5
namespace Go.Proofs.YtfdlemkplejdnaaGreat
open Go.RowKit Go.Sort
open Value renaming int->ι,pointer->ψ,slice->ζ,tuple->χ,agg->φ,map->μ,bool->β
open IntKind renaming u64->υ,i64->ε,u16->ω
open Ending renaming returned->ϰ
open Go.Proofs.Tryz renaming prog->Ψ,underlying3->Θ,underlying147->Δ,underlying152->Γ,underlying202->Φ,underlying39->Ξ,underlying207->Ω
open Go renaming World->ϖ,Value->ϗ
set_option linter.unusedVariables false
set_option linter.unusedSimpArgs false
set_option maxHeartbeats 8000000
set_option maxRecDepth 100000
def pj (lf P B Z Y R L U:Bool):Int:=if ((lf && !(P && B && (R || L))) || (!lf && !(Z && Y && !R)) || (U && !L))=true then 29 else 0
theorem yC (id par:Int)(lf:Bool)(r l u pk by_:Int)(My:1<=id/\id<=65536)(Jy:0<=par/\par<=65536)(IX:id≠par)(hr:0<=r/\r<=4)(hl:0<=l/\l<=4)(hu:0<=u/\u<=4)(qr:r≠0)(ql:l≠0)(qu:u≠0)(sl:l≠4)(su:u≠4):
  wr id par lf r l u pk by_=pj lf (pM pk 1 64) (pM by_ 1 1048576) (pk==0) (by_==0) (cW r) (cW l) (cW u):=by
 have e0:(pk==0)=decide (pk=0):=rfl;have e1:(by_==0)=decide (by_=0):=rfl;rw[e0,e1];unfold wr pj pM cW;rw[ZI ρa,ZI ρa];cases lf
 ·by_cases a:pk=0<;>by_cases b:by_=0<;>by_cases c:1<r<;>by_cases d:1<l<;>by_cases e:1<u<;>simp[a,b,c,d,e]<;>(repeat' split)<;>omega
 ·by_cases a:1<=pk/\pk<=64<;>by_cases b:1<=by_/\by_<=1048576<;>by_cases c:1<r<;>by_cases d:1<l<;>by_cases e:1<u<;>simp[a,b,c,d,e]<;>(repeat' split)<;>omega
theorem mF (id par:Int)(r0 r1 r2 l0 l1 l2 u0 u1 u2 pk by_:Int)(w:ϖ)(hr:0<=r0/\0<=r1/\0<=r2)(hl:0<=l0/\0<=l1/\0<=l2)(hu:0<=u0/\0<=u1/\0<=u2)(My:1<=id/\id<=65536)(Jy:0<=par/\par<=65536)(IX:id≠par)(qr:(kd r0 r1 r2 !=0)=true)(ql:(kd l0 l1 l2 !=0)=true)(qu:(kd u0 u1 u2 !=0)=true)(sl:(kd l0 l1 l2==4)=false)(su:(kd u0 u1 u2==4)=false):
  CB 175 #[cls id par true r0 r1 r2 l0 l1 l2 u0 u1 u2 pk by_] w (ι ε (wr id par true (kd r0 r1 r2) (kd l0 l1 l2) (kd u0 u1 u2) pk by_)):=by
 rw[yC id par true (kd r0 r1 r2) (kd l0 l1 l2) (kd u0 u1 u2) pk by_ My Jy IX (fV _ _ _) (fV _ _ _) (fV _ _ _) (bne_iff_ne.1 qr) (bne_iff_ne.1 ql) (bne_iff_ne.1 qu) (ZN.1 sl) (ZN.1 su)];refine η0 ?_;intro f1 f2 f3 i0 i1 i2;unfold CB;go_in;go_wp2_with (first|(go_at_call 229;refine(aK _ _ _ _).mono ?_;rintro e w' ⟨rfl,rfl⟩));refine wp_loop_rounds 4 ?_;rw[cV];go_wp2_with fail;refine(bK r0 r1 r2 _ hr true qr).mono ?_;rintro e w1 ⟨rfl,IG⟩;have A1:ah w1 w (kE id par true r0 r1 r2 l0 l1 l2 u0 u1 u2 pk by_) 43:=Zv IG;refine η2 ?_;intro g1 Jf;clear IG;have Rr:=A1.r;go_wp2;rw[cV];go_wp2_with fail;refine δo ?_;intro w2 IW A2 MW;refine η9 ?_;intro g2 Jr;clear IW;replace Rr:=θ2 A2.r MW.r;go_wp2_with fail;refine δh ?_;clear Rr;intro w3 A3 OA g3 LD Rr;go_wp2;rw[cV];go_wp2_with fail;refine(bK u0 u1 u2 _ hu true qu).mono ?_;refine δu ?_;clear Rr;intro w4 A4 Pf g4 RR Rr;go_wp2_with fail;refine δH ?_;clear Rr;intro w5 A5 RC g5 QZ Rr;go_wp2;refine cj (λv=>Below w w v/\ah v w (kE id par true r0 r1 r2 l0 l1 l2 u0 u1 u2 pk by_) 43) ⟨ρE,ρB⟩ ?_;clear i0 i1 i2 A1 A2 A3 A4 A5 MW OA Pf RC g1 g2 g3 g4 g5 f1 f2 f3;rintro w9 ⟨g9,A9⟩;have Ss:=A9.r;rw[cV];rcases gp:pM pk 1 64 with _|_
 ·rcases gz:(pk==0) with _|_
  ·go_wp2_with (first|(go_at_call 229;refine(aK _ _ _ _).mono ?_;rintro e w' ⟨rfl,rfl⟩)|(go_at_call 118;refine(bm id par true r0 r1 r2 l0 l1 l2 u0 u1 u2 pk by_ _ hr).mono ?_;refine bo ?_;intro w' f' IZ IY;have IP:=A9.tr f';have rA:=IP.r;clear f')|(go_at_call 105;refine(aO id par true r0 r1 r2 l0 l1 l2 u0 u1 u2 pk by_ _ hl).mono ?_;refine bo ?_;intro w' f' IZ IY;have IP:=A9.tr f';have rA:=IP.r;clear f')|(go_at_call 230;refine(aL id par true r0 r1 r2 l0 l1 l2 u0 u1 u2 pk by_ _ hu).mono ?_;refine bo ?_;intro w' f' IZ IY;have IP:=A9.tr f';have rA:=IP.r;clear f'));go_ret;exact⟨dP (by rw[gp,gz];simp[pj]),ρE⟩
  ·rcases gy:(by_==0) with _|_
   ·go_wp2_with (first|(go_at_call 229;refine(aK _ _ _ _).mono ?_;rintro e w' ⟨rfl,rfl⟩)|(go_at_call 118;refine(bm id par true r0 r1 r2 l0 l1 l2 u0 u1 u2 pk by_ _ hr).mono ?_;refine bo ?_;intro w' f' IZ IY;have IP:=A9.tr f';have rA:=IP.r;clear f')|(go_at_call 105;refine(aO id par true r0 r1 r2 l0 l1 l2 u0 u1 u2 pk by_ _ hl).mono ?_;refine bo ?_;intro w' f' IZ IY;have IP:=A9.tr f';have rA:=IP.r;clear f')|(go_at_call 230;refine(aL id par true r0 r1 r2 l0 l1 l2 u0 u1 u2 pk by_ _ hu).mono ?_;refine bo ?_;intro w' f' IZ IY;have IP:=A9.tr f';have rA:=IP.r;clear f'));go_ret;exact⟨dP (by rw[gp,gz,gy];simp[pj]),ρE⟩
   ·rcases gr:cW (kd r0 r1 r2) with _|_
    ·exact ξq
    ·exact ξq
 ·have gz:(pk==0)=false:=by have:=of_decide_eq_true gp;exact ZN.2 ρa
  rcases gb:pM by_ 1 1048576 with _|_
  ·go_wp2_with (first|(go_at_call 229;refine(aK _ _ _ _).mono ?_;rintro e w' ⟨rfl,rfl⟩)|(go_at_call 118;refine(bm id par true r0 r1 r2 l0 l1 l2 u0 u1 u2 pk by_ _ hr).mono ?_;refine bo ?_;intro w' f' IZ IY;have IP:=A9.tr f';have rA:=IP.r;clear f')|(go_at_call 105;refine(aO id par true r0 r1 r2 l0 l1 l2 u0 u1 u2 pk by_ _ hl).mono ?_;refine bo ?_;intro w' f' IZ IY;have IP:=A9.tr f';have rA:=IP.r;clear f')|(go_at_call 230;refine(aL id par true r0 r1 r2 l0 l1 l2 u0 u1 u2 pk by_ _ hu).mono ?_;refine bo ?_;intro w' f' IZ IY;have IP:=A9.tr f';have rA:=IP.r;clear f'));go_ret;exact⟨dP (by rw[gp,gz,gb];simp[pj]),ρE⟩
  ·rcases gr:cW (kd r0 r1 r2) with _|_
   ·rcases gl:cW (kd l0 l1 l2) with _|_
    ·go_wp2_with (first|(go_at_call 229;refine(aK _ _ _ _).mono ?_;rintro e w' ⟨rfl,rfl⟩)|(go_at_call 118;refine(bm id par true r0 r1 r2 l0 l1 l2 u0 u1 u2 pk by_ _ hr).mono ?_;refine bo ?_;intro w' f' IZ IY;have IP:=A9.tr f';have rA:=IP.r;clear f')|(go_at_call 105;refine(aO id par true r0 r1 r2 l0 l1 l2 u0 u1 u2 pk by_ _ hl).mono ?_;refine bo ?_;intro w' f' IZ IY;have IP:=A9.tr f';have rA:=IP.r;clear f')|(go_at_call 230;refine(aL id par true r0 r1 r2 l0 l1 l2 u0 u1 u2 pk by_ _ hu).mono ?_;refine bo ?_;intro w' f' IZ IY;have IP:=A9.tr f';have rA:=IP.r;clear f'));go_ret;exact⟨dP (by rw[gp,gz,gb,gr,gl];simp[pj]),ρE⟩
    ·rcases gu:cW (kd u0 u1 u2) with _|_
     ·exact ξn
     ·exact ξn
   ·rcases gu:cW (kd u0 u1 u2) with _|_
    ·go_wp2_with (first|(go_at_call 229;refine(aK _ _ _ _).mono ?_;rintro e w' ⟨rfl,rfl⟩)|(go_at_call 118;refine(bm id par true r0 r1 r2 l0 l1 l2 u0 u1 u2 pk by_ _ hr).mono ?_;refine bo ?_;intro w' f' IZ IY;have IP:=A9.tr f';have rA:=IP.r;clear f')|(go_at_call 105;refine(aO id par true r0 r1 r2 l0 l1 l2 u0 u1 u2 pk by_ _ hl).mono ?_;refine bo ?_;intro w' f' IZ IY;have IP:=A9.tr f';have rA:=IP.r;clear f')|(go_at_call 230;refine(aL id par true r0 r1 r2 l0 l1 l2 u0 u1 u2 pk by_ _ hu).mono ?_;refine bo ?_;intro w' f' IZ IY;have IP:=A9.tr f';have rA:=IP.r;clear f'));go_ret;exact⟨dP (by rw[gp,gz,gb,gr,gu];simp[pj]),ρE⟩
    ·rcases gl:cW (kd l0 l1 l2) with _|_
     ·exact ξo
     ·exact ξo
theorem lJ (id par:Int)(r0 r1 r2 l0 l1 l2 u0 u1 u2 pk by_:Int)(w:ϖ)(hr:0<=r0/\0<=r1/\0<=r2)(hl:0<=l0/\0<=l1/\0<=l2)(hu:0<=u0/\0<=u1/\0<=u2)(My:1<=id/\id<=65536)(Jy:0<=par/\par<=65536)(IX:id≠par)(qr:(kd r0 r1 r2 !=0)=true)(ql:(kd l0 l1 l2 !=0)=true)(qu:(kd u0 u1 u2 !=0)=true)(sl:(kd l0 l1 l2==4)=false)(su:(kd u0 u1 u2==4)=false):
  CB 175 #[cls id par false r0 r1 r2 l0 l1 l2 u0 u1 u2 pk by_] w (ι ε (wr id par false (kd r0 r1 r2) (kd l0 l1 l2) (kd u0 u1 u2) pk by_)):=by
 rw[yC id par false (kd r0 r1 r2) (kd l0 l1 l2) (kd u0 u1 u2) pk by_ My Jy IX (fV _ _ _) (fV _ _ _) (fV _ _ _) (bne_iff_ne.1 qr) (bne_iff_ne.1 ql) (bne_iff_ne.1 qu) (ZN.1 sl) (ZN.1 su)];refine η0 ?_;intro f1 f2 f3 i0 i1 i2;unfold CB;go_in;go_wp2_with (first|(go_at_call 229;refine(aK _ _ _ _).mono ?_;rintro e w' ⟨rfl,rfl⟩));refine wp_loop_rounds 4 ?_;rw[cV];go_wp2_with fail;refine(bK r0 r1 r2 _ hr true qr).mono ?_;rintro e w1 ⟨rfl,IG⟩;have A1:ah w1 w (kE id par false r0 r1 r2 l0 l1 l2 u0 u1 u2 pk by_) 43:=Zv IG;refine η2 ?_;intro g1 Jf;clear IG;have Rr:=A1.r;go_wp2;rw[cV];go_wp2_with fail;refine δo ?_;intro w2 IW A2 MW;refine η9 ?_;intro g2 Jr;clear IW;replace Rr:=θ2 A2.r MW.r;go_wp2_with fail;refine δh ?_;clear Rr;intro w3 A3 OA g3 LD Rr;go_wp2;rw[cV];go_wp2_with fail;refine(bK u0 u1 u2 _ hu true qu).mono ?_;refine δu ?_;clear Rr;intro w4 A4 Pf g4 RR Rr;go_wp2_with fail;refine δH ?_;clear Rr;intro w5 A5 RC g5 QZ Rr;go_wp2;refine cj (λv=>Below w w v/\ah v w (kE id par false r0 r1 r2 l0 l1 l2 u0 u1 u2 pk by_) 43) ⟨ρE,ρB⟩ ?_;clear i0 i1 i2 A1 A2 A3 A4 A5 MW OA Pf RC g1 g2 g3 g4 g5 f1 f2 f3;rintro w9 ⟨g9,A9⟩;have Ss:=A9.r;rw[cV];rcases gp:pM pk 1 64 with _|_
 ·rcases gz:(pk==0) with _|_
  ·go_wp2_with (first|(go_at_call 229;refine(aK _ _ _ _).mono ?_;rintro e w' ⟨rfl,rfl⟩)|(go_at_call 118;refine(bm id par false r0 r1 r2 l0 l1 l2 u0 u1 u2 pk by_ _ hr).mono ?_;refine bo ?_;intro w' f' IZ IY;have IP:=A9.tr f';have rA:=IP.r;clear f')|(go_at_call 105;refine(aO id par false r0 r1 r2 l0 l1 l2 u0 u1 u2 pk by_ _ hl).mono ?_;refine bo ?_;intro w' f' IZ IY;have IP:=A9.tr f';have rA:=IP.r;clear f')|(go_at_call 230;refine(aL id par false r0 r1 r2 l0 l1 l2 u0 u1 u2 pk by_ _ hu).mono ?_;refine bo ?_;intro w' f' IZ IY;have IP:=A9.tr f';have rA:=IP.r;clear f'));go_ret;exact⟨dP (by rw[gp,gz];simp[pj]),ρE⟩
  ·rcases gy:(by_==0) with _|_
   ·go_wp2_with (first|(go_at_call 229;refine(aK _ _ _ _).mono ?_;rintro e w' ⟨rfl,rfl⟩)|(go_at_call 118;refine(bm id par false r0 r1 r2 l0 l1 l2 u0 u1 u2 pk by_ _ hr).mono ?_;refine bo ?_;intro w' f' IZ IY;have IP:=A9.tr f';have rA:=IP.r;clear f')|(go_at_call 105;refine(aO id par false r0 r1 r2 l0 l1 l2 u0 u1 u2 pk by_ _ hl).mono ?_;refine bo ?_;intro w' f' IZ IY;have IP:=A9.tr f';have rA:=IP.r;clear f')|(go_at_call 230;refine(aL id par false r0 r1 r2 l0 l1 l2 u0 u1 u2 pk by_ _ hu).mono ?_;refine bo ?_;intro w' f' IZ IY;have IP:=A9.tr f';have rA:=IP.r;clear f'));go_ret;exact⟨dP (by rw[gp,gz,gy];simp[pj]),ρE⟩
   ·rcases gr:cW (kd r0 r1 r2) with _|_
    ·rcases gu:cW (kd u0 u1 u2) with _|_
     ·go_wp2_with (first|(go_at_call 229;refine(aK _ _ _ _).mono ?_;rintro e w' ⟨rfl,rfl⟩)|(go_at_call 118;refine(bm id par false r0 r1 r2 l0 l1 l2 u0 u1 u2 pk by_ _ hr).mono ?_;refine bo ?_;intro w' f' IZ IY;have IP:=A9.tr f';have rA:=IP.r;clear f')|(go_at_call 105;refine(aO id par false r0 r1 r2 l0 l1 l2 u0 u1 u2 pk by_ _ hl).mono ?_;refine bo ?_;intro w' f' IZ IY;have IP:=A9.tr f';have rA:=IP.r;clear f')|(go_at_call 230;refine(aL id par false r0 r1 r2 l0 l1 l2 u0 u1 u2 pk by_ _ hu).mono ?_;refine bo ?_;intro w' f' IZ IY;have IP:=A9.tr f';have rA:=IP.r;clear f'));go_ret;exact⟨dP (by rw[gp,gz,gy,gr,gu];simp[pj]),ρE⟩
     ·rcases gl:cW (kd l0 l1 l2) with _|_
      ·exact ξm
      ·exact ξm
    ·go_wp2_with (first|(go_at_call 229;refine(aK _ _ _ _).mono ?_;rintro e w' ⟨rfl,rfl⟩)|(go_at_call 118;refine(bm id par false r0 r1 r2 l0 l1 l2 u0 u1 u2 pk by_ _ hr).mono ?_;refine bo ?_;intro w' f' IZ IY;have IP:=A9.tr f';have rA:=IP.r;clear f')|(go_at_call 105;refine(aO id par false r0 r1 r2 l0 l1 l2 u0 u1 u2 pk by_ _ hl).mono ?_;refine bo ?_;intro w' f' IZ IY;have IP:=A9.tr f';have rA:=IP.r;clear f')|(go_at_call 230;refine(aL id par false r0 r1 r2 l0 l1 l2 u0 u1 u2 pk by_ _ hu).mono ?_;refine bo ?_;intro w' f' IZ IY;have IP:=A9.tr f';have rA:=IP.r;clear f'));go_ret;exact⟨dP (by rw[gp,gz,gy,gr];simp[pj]),ρE⟩
 ·have gz:(pk==0)=false:=by have:=of_decide_eq_true gp;exact ZN.2 ρa
  rcases gb:pM by_ 1 1048576 with _|_
  ·go_wp2_with (first|(go_at_call 229;refine(aK _ _ _ _).mono ?_;rintro e w' ⟨rfl,rfl⟩)|(go_at_call 118;refine(bm id par false r0 r1 r2 l0 l1 l2 u0 u1 u2 pk by_ _ hr).mono ?_;refine bo ?_;intro w' f' IZ IY;have IP:=A9.tr f';have rA:=IP.r;clear f')|(go_at_call 105;refine(aO id par false r0 r1 r2 l0 l1 l2 u0 u1 u2 pk by_ _ hl).mono ?_;refine bo ?_;intro w' f' IZ IY;have IP:=A9.tr f';have rA:=IP.r;clear f')|(go_at_call 230;refine(aL id par false r0 r1 r2 l0 l1 l2 u0 u1 u2 pk by_ _ hu).mono ?_;refine bo ?_;intro w' f' IZ IY;have IP:=A9.tr f';have rA:=IP.r;clear f'));go_ret;exact⟨dP (by rw[gp,gz,gb];simp[pj]),ρE⟩
  ·rcases gr:cW (kd r0 r1 r2) with _|_
   ·rcases gl:cW (kd l0 l1 l2) with _|_
    ·exact ξp
    ·exact ξp
   ·go_wp2_with (first|(go_at_call 229;refine(aK _ _ _ _).mono ?_;rintro e w' ⟨rfl,rfl⟩)|(go_at_call 118;refine(bm id par false r0 r1 r2 l0 l1 l2 u0 u1 u2 pk by_ _ hr).mono ?_;refine bo ?_;intro w' f' IZ IY;have IP:=A9.tr f';have rA:=IP.r;clear f')|(go_at_call 105;refine(aO id par false r0 r1 r2 l0 l1 l2 u0 u1 u2 pk by_ _ hl).mono ?_;refine bo ?_;intro w' f' IZ IY;have IP:=A9.tr f';have rA:=IP.r;clear f')|(go_at_call 230;refine(aL id par false r0 r1 r2 l0 l1 l2 u0 u1 u2 pk by_ _ hu).mono ?_;refine bo ?_;intro w' f' IZ IY;have IP:=A9.tr f';have rA:=IP.r;clear f'));go_ret;exact⟨dP (by rw[gp,gz,gb,gr];simp[pj]),ρE⟩
section
open Go.ChangeShapes Go.WideShapes Go.ChangeAt Go.RowKit
section
variable {H:Type} {w:ϖ} {base:Nat} {Jp:Nat->Bool} {JP:Bool} {enc:TypeId × ϗ->H}
end
theorem nj (id par:Int)(lf:Bool)(r0 r1 r2 l0 l1 l2 u0 u1 u2 pk by_:Int)(w:ϖ)(hr:0<=r0/\0<=r1/\0<=r2)(hl:0<=l0/\0<=l1/\0<=l2)(hu:0<=u0/\0<=u1/\0<=u2)(c:Int)(h:wr id par lf (kd r0 r1 r2) (kd l0 l1 l2) (kd u0 u1 u2) pk by_=c):
  CB 175 #[cls id par lf r0 r1 r2 l0 l1 l2 u0 u1 u2 pk by_] w (ι ε c):=by
 subst h;by_cases h:id<1\/65536<id\/par<0\/65536<par\/id=par
 ·rw[show wr id par lf (kd r0 r1 r2) (kd l0 l1 l2) (kd u0 u1 u2) pk by_=1 by unfold wr;rw[ZP h]];exact xC id par lf r0 r1 r2 l0 l1 l2 u0 u1 u2 pk by_ w h
 have bad:(kd r0 r1 r2=0\/kd l0 l1 l2=0\/kd u0 u1 u2=0\/kd l0 l1 l2=4\/kd u0 u1 u2=4)->wr id par lf (kd r0 r1 r2) (kd l0 l1 l2) (kd u0 u1 u2) pk by_=21:=by intro hb;unfold wr;rw[ZI h,ZP hb]
 have My:1<=id/\id<=65536:=ρa;have Jy:0<=par/\par<=65536:=ρa;have IX:id≠par:=ρa;rcases qr:(kd r0 r1 r2 !=0) with _|_
 ·rw[bad (.inl (by simpa using qr))];exact xF id par lf r0 r1 r2 l0 l1 l2 u0 u1 u2 pk by_ w hr hl hu My Jy IX qr
 rcases ql:(kd l0 l1 l2 !=0) with _|_
 ·rw[bad (.inr (.inl (by simpa using ql)))];exact xD id par lf r0 r1 r2 l0 l1 l2 u0 u1 u2 pk by_ w hr hl hu My Jy IX qr ql
 rcases sl:(kd l0 l1 l2==4) with _|_;case true=>rw[bad (.inr (.inr (.inr (.inl (by simpa using sl)))))];exact xE id par lf r0 r1 r2 l0 l1 l2 u0 u1 u2 pk by_ w hr hl hu My Jy IX qr ql sl
 rcases qu:(kd u0 u1 u2 !=0) with _|_
 ·rw[bad (.inr (.inr (.inl (by simpa using qu))))];exact xG id par lf r0 r1 r2 l0 l1 l2 u0 u1 u2 pk by_ w hr hl hu My Jy IX qr ql qu sl
 rcases su:(kd u0 u1 u2==4) with _|_;case true=>rw[bad (.inr (.inr (.inr (.inr (by simpa using su)))))];exact xH id par lf r0 r1 r2 l0 l1 l2 u0 u1 u2 pk by_ w hr hl hu My Jy IX qr ql qu sl su
 cases lf
 ·exact lJ id par r0 r1 r2 l0 l1 l2 u0 u1 u2 pk by_ w hr hl hu My Jy IX qr ql qu sl su
 ·exact mF id par r0 r1 r2 l0 l1 l2 u0 u1 u2 pk by_ w hr hl hu My Jy IX qr ql qu sl su
theorem rb (w:ϖ)(id par:Int)(lf:Bool)(r0 r1 r2 l0 l1 l2 u0 u1 u2 pk by_:Int)(h:0<=r0/\0<=r1/\0<=r2)(b:Bool)(hb:cW (kd r0 r1 r2)=b):
  CB 118 #[cls id par lf r0 r1 r2 l0 l1 l2 u0 u1 u2 pk by_] w (β b):=by subst hb;exact bm _ _ _ _ _ _ _ _ _ _ _ _ _ _ w h
theorem lb (w:ϖ)(id par:Int)(lf:Bool)(r0 r1 r2 l0 l1 l2 u0 u1 u2 pk by_:Int)(h:0<=l0/\0<=l1/\0<=l2)(b:Bool)(hb:cW (kd l0 l1 l2)=b):
  CB 105 #[cls id par lf r0 r1 r2 l0 l1 l2 u0 u1 u2 pk by_] w (β b):=by subst hb;exact aO _ _ _ _ _ _ _ _ _ _ _ _ _ _ w h
theorem ub (w:ϖ)(id par:Int)(lf:Bool)(r0 r1 r2 l0 l1 l2 u0 u1 u2 pk by_:Int)(h:0<=u0/\0<=u1/\0<=u2)(b:Bool)(hb:cW (kd u0 u1 u2)=b):
  CB 230 #[cls id par lf r0 r1 r2 l0 l1 l2 u0 u1 u2 pk by_] w (β b):=by subst hb;exact aL _ _ _ _ _ _ _ _ _ _ _ _ _ _ w h
end
def gW (f:Int)(zs:List Int):Int:=zs.foldl max f
theorem uN (f:Int)(zs:List Int)(z:Int):gW f (zs++[z])=max (gW f zs) z:=by unfold gW;simp
theorem pR (x y:Int)(w:ϖ)(b:Bool)(hb:decide (x<y)=b):Calls Ψ 226 #[x,y] w λe w'=>e=ϰ (β b)/\w=w':=by
 subst hb;have hx:(x !=x)=false:=ρp;have hy:(y !=y)=false:=ρp;have Vq:(x==x)=true:=ρp;have hy':(y==y)=true:=ρp;go_in;go_wp2;go_ret;exact⟨rfl,rfl⟩
theorem wJ {f:Int} {zs:List Int} (hf:aq f)(h:∀z ∈ zs,0<=z/\z<=Ma):0<=gW f zs/\gW f zs<=Ma:=by
 unfold gW
 induction zs generalizing f with
 | nil=>exact hf
 | cons z zs ih=>have hz:=h z ρp;exact ih (f:=max f z) ρa (λy hy=>h y (by simp[hy]))
theorem oq (f:Int)(a:Option Addr)(len IM:Nat)(zs:List Int)(w:ϖ)(hr:pu w a len zs)(hm:len<=Mb):Calls Ψ 170 #[f,ζ a len IM] w λe w'=>e=ϰ (gW f zs)/\w=w':=by
 obtain⟨IS,hr⟩:=hr;have Lv:gW f (zs.take 0)=f:=rfl;have Lt:=ag (show zs.take len=zs from List.take_of_length_le ρa);have RM:=ag IS;clear IS;have hr':=ag hr;clear hr;have hl0':=ag Lv;clear Lv;go_in;go_wp2;go_loop [0,9] (λt i=>∃k:Nat,k<=len/\i=ι ε k/\t=(gW f (zs.take k))) (λ_ i=>len - (intOf i).toNat);case atStart=>exact⟨0,Nat.zero_le _,rfl,rfl⟩
 case round=>
  obtain⟨k,hk,rfl,rfl⟩:=hrel;by_cases IJ:k<len
  ·have hs:=lT zs k (by rw[RM.out];exact IJ);have Mz:=ag (show gW f (zs.take (k+1))=max (gW f (zs.take k)) (zs.getD k 0) by rw[hs,uN]);clear hs;obtain⟨b,II,rfl,hc⟩:∃b II,a=some ⟨b,II,none⟩/\∀i,i<len->w.cell? ⟨b,II+i,none⟩=some (ι υ (zs.getD i 0)):=by
    rcases hr'.out with h|h
    ·omega
    ·exact h
   have ML:=hc k IJ;clear hc;by_cases Kg:gW f (zs.take k)<zs.getD k 0
   ·go_wp2_with fail;refine(pR _ _ _ true (ZT Kg)).mono ?_;rintro e w' ⟨rfl,rfl⟩;go_wp2;go_round;case rel=>exact⟨k+1,by omega,by go_num,by rw[Mz.out];refine ZG _ ?_;show zs.getD k 0=_;omega⟩
    case measure=>simp[intOf];omega
   ·go_wp2_with fail;refine(pR _ _ _ false (ZF (show ¬gW f (zs.take k)<zs.getD k 0 by omega))).mono ?_;rintro e w' ⟨rfl,rfl⟩;go_wp2;go_round;case rel=>exact⟨k+1,by omega,by go_num,by rw[Mz.out];refine ZG _ ?_;omega⟩
    case measure=>simp[intOf];omega
  ·obtain rfl:k=len:=by omega
   go_wp2;go_ret;exact⟨dP (by rw[Lt.out]),rfl⟩
theorem ug (w:ϖ) {B:Nat} (zs:List Int)(hB:B=w):pu (w.alloc (.cells (zs.map (Value.int .u64)).toArray 39)) B zs.length zs:=by refine⟨rfl,.inr ⟨B,0,rfl,λi hi=>?_⟩⟩;rw[Nat.zero_add,(ah.alloc_new w _ _ hB).cell i];simp[hi]
theorem GB (w:ϖ) {B:Nat} (x:Int)(hB:B=w):pu (w.alloc (.cells #[x] 39)) B 1 [x]:=ug w [x] hB
theorem GC (w:ϖ) {B:Nat} (x y:Int)(hB:B=w):pu (w.alloc (.cells #[x,y] 39)) B 2 [x,y]:=ug w [x,y] hB
def CQ (n u d:Int):Int:=min (max (max n u) d) Mc
theorem FB (n u d:Int)(w:ϖ)(hn:aq n)(hu:aq u)(hd:aq d):Calls Ψ 132 (aP n u d) w λe w'=>e=ϰ (CQ n u d)/\Below w w w':=by
 have e1:=ag (show yJ [gW n [u,d]]=CQ n u d by simp[yJ,gW,CQ];omega);have e2:=ag (show 0<=gW n [u,d]/\gW n [u,d]<=Ma from wJ hn (by intro z hz;simp at hz;omega));go_in;go_wp2_with fail;refine(oq n _ _ _ [u,d] _ (GC _ _ _ rfl) ρf).mono ?_;rintro e w' ⟨rfl,rfl⟩;go_wp2_with fail;refine(Cl _ _ _ [gW n [u,d]] _ (GB _ _ ρp) ρf (by intro z hz;simp at hz;subst hz;exact e2.out)).mono ?_;rintro e w' ⟨rfl,rfl⟩;rw[e1.out];go_wp2;go_ret;exact⟨rfl,ρE⟩
def bE (L:Nat)(w w':ϖ):Prop:=Below L w w'/\∀B,B<w.heap.size->B≠L->w'.heap[B]?=w.heap[B]?
theorem bE.of_below {L:Nat} {w w':ϖ} (h:Below w w w')(hL:L<=w):bE L w w':=⟨h.mono hL,λB hB _=>h.block B hB⟩
theorem bE.trans {L:Nat} {a b c:ϖ} (h:bE L a b)(k:bE L b c):bE L a c:=
 ⟨h.1.trans k.1,λB hB IX=>(k.2 B (ZB hB h.1.size) IX).trans (h.2 B hB IX)⟩
theorem bE.setCell {L:Nat} {a w:ϖ} (h:bE L a w)(i:Nat)(v:ϗ):bE L a (w.setCell ⟨L,i,none⟩ v):=
 ⟨h.1.setCell (ZR _) _,λB hB IX=>by rw[Below.heap_setCell _ _ _ _ IX];exact h.2 B hB IX⟩
theorem bE.drew {L:Nat} {a w:ϖ} (h:bE L a w):bE L a w.drew:=⟨h.1.drew,h.2⟩
theorem Gf (t:Int)(w:ϖ)(ht:1<=t/\t<=65536):Calls Ψ 49 #[ι ε t] w λe w'=>e=ϰ (χ #[w,Kz])/\Below w w w'/\ah w' w #[ι υ (0),ι υ (0),ι υ (0),ι ε (t),ι υ (0)] 160:=by
 have d1:=df (t<1);have d2:=df (65536<t);go_in;go_wp2;go_returns;exact⟨rfl,ρE,ρB⟩
section
theorem wN (L:Nat)(p b k t u:Int)(w:ϖ)(hL:ah w L #[(p),(b),(k),ι ε (t),(u)] 160)(now:Int)(c:Bool)(hc:decide (u<=now)=c):Calls Ψ 54 #[L,now] w λe w'=>e=ϰ (β c)/\w=w':=by
 have cL:=hL.cell;have zL:=hL.size;go_in;go_wp2;go_ret;exact⟨rfl,rfl⟩
theorem CA (L:Nat)(p b k t u:Int)(w:ϖ)(hL:ah w L #[(p),(b),(k),ι ε (t),(u)] 160):Calls Ψ 133 #[L] w λe w'=>e=ϰ u/\w=w':=by
 have cL:=hL.cell;have zL:=hL.size;go_in;go_wp2;go_ret;exact⟨rfl,rfl⟩
theorem Ge (L:Nat)(p b k t u:Int)(w:ϖ)(hL:ah w L #[(p),(b),(k),ι ε (t),(u)] 160)(n y:Int)(hn:0<=n/\n<=16384)(hy:0<=y)(h1:0<=p/\p+1<=Ma)(h2:0<=b/\b+n<=Ma)(h3:0<=k/\k+y<=Ma):Calls Ψ 168 #[L,ι ε n,y] w λe w'=>e=ϰ (χ #[])/\ah w' L #[ι υ (p+1),ι υ (b+n),ι υ (k+y),ι ε (t),(u)] 160/\bE L w w':=by
 have cL:=hL.cell;have zL:=hL.size;have fL:=hL.frozen;go_in;go_wp2;go_end0;exact⟨rfl,ρB,(((bE.of_below (Below.refl _ _) ρa).setCell _ _).setCell _ _).setCell _ _⟩
end
section
theorem wO (id len h0 h1 h2 h3 now:Int)(L:Nat)(p b k t u:Int)(w:ϖ)(hL:ah w L #[(p),(b),(k),ι ε (t),(u)] 160)(hn:0<=now/\now<=4611686018427387904)(hl:1<=len/\len<=16384)(hu:u<=now)(ht:1<=t/\t<=65536)(g1:0<=p/\p+1<=Ma)(g2:0<=b/\b+len<=Ma)(y:Int)(hy:len*t=y)(g3:0<=k/\k+y<=Ma):Calls Ψ 130 #[L,now,FR id len h0 h1 h2 h3] w λe w'=>e=ϰ (χ #[ι υ (now+y),Kz])/\ah w' L #[ι υ (p+1),ι υ (b+len),ι υ (k+y),ι ε (t),ι υ (now+y)] 160/\bE L w w':=by
 have cL:=hL.cell;have zL:=hL.size;have fL:=hL.frozen;have d1:=df (4611686018427387904<now);have hp:0<=len*t/\len*t<=1073741824:=by refine⟨Int.mul_nonneg ρa ρa,?_⟩;have:=Int.mul_le_mul hl.2 ht.2 ρa (by omega:(0:Int)<=16384);omega
 rw[hy] at hp;have hLw:=hL.size;have Hy:=ag hy;clear hy;have ctk:∀v,CB 167 #[FR id len h0 h1 h2 h3,ι ε t] v (χ #[y,Kz]):=λv=>by have:=ye id len h0 h1 h2 h3 t v ht hl;rw[Hy.out] at this;exact this
 have Htk:=ag ctk;clear ctk;go_in;go_wp2_with fail;refine(Ai id len h0 h1 h2 h3 16384 _ 0 (by rw[ZP ρa,ZP hl])).mono ?_;rintro e w1 ⟨rfl,IG⟩;have L1:ah w1 (L) #[(p),(b),(k),ι ε (t),(u)] 160:=Zv IG;have A1:ah w1 w (gG id len h0 h1 h2 h3) 50:=Zv IG;refine η2 ?_;intro g1 Jf;clear IG;replace cL:=L1.cell;replace fL:=L1.frozen;replace zL:=L1.size;replace cA:=A1.cell;replace fA:=A1.frozen;replace zA:=A1.size;go_wp2_with fail;refine(wN L p b k t u _ L1 now true (ZT hu)).mono ?_;rintro e u2 ⟨rfl,rfl⟩;go_wp2_with fail;go_region_held3 (λv=>(∀i,v.cell? ⟨L,i,none⟩=#[ι υ (p),ι υ (b),ι υ (k),ι ε (t),ι υ (u)][i]?)/\L<v/\ah v (L) #[(p),(b),(k),ι ε (t),(u)] 160/\(∀i,v.cell? ⟨w,i,none⟩=(gG id len h0 h1 h2 h3)[i]?)/\w.heap.size<v/\ah v w (gG id len h0 h1 h2 h3) 50/\Below w w v)
  (first
   | (refine⟨?_,?_,?_,?_,?_,?_,?_⟩<;>first | (with_reducible assumption) | ((repeat' (first | (with_reducible (first | assumption | exact ah.alloc_new _ _ _ ρ4 | apply ah.drewN | apply ah.drew | apply ah.alloc_old | apply ah.set_same | apply ah.set_other)) | (show (_:Nat)≠_;first | omega | (simp;done) | (simp;omega)) | ((simp only[List.setIfInBounds_toArray,List.set_cons_succ,List.set_cons_zero]);(with_reducible exact rfl)) | (with_reducible exact rfl) | (show (_:Array ϗ)=_;exact rfl)));done) | ((repeat' (first | (with_reducible (first | exact Below.refl _ _ | assumption | refine below_drewN ?_ _ | refine Below.drew ?_ | refine Below.alloc ?_ ?_ _ | refine Below.setCell ?_ ?_ _)) | go_size));done) | omega | (go_simp;done) | (simp;done) | (exact ah.cell ρB)))
  (first
   | (go_at_call 167;(with_reducible refine(Htk.out _).mono ?_);refine bo ?_;intro w' f' IZ IY;have hkL:=L1.tr f';have hqL:=hkL.cell;have hzL:=hkL.size;have IP:=A1.tr f';have hqA:=IP.cell;have hzA:=IP.size;clear f'))
 all_goals
  have fL2:=hkL.frozen;go_wp2_with fail;refine aI (λv=>bE L w v/\ah v L #[(p),(b),(k),ι ε (t),ι υ (now+y)] 160/\ah v w (gG id len h0 h1 h2 h3) 50) ⟨(bE.of_below IZ ρa).setCell _ _,ρB,ρB⟩ ?_;clear cL fL zL cA fA zA hqL hqA fL2 hkL IP hzL hzA IZ L1 A1 g1;rintro v ⟨K2,L2,A2⟩;have cL:=L2.cell;have cA:=A2.cell;have zL:=L2.size;have zA:=A2.size;go_region_with (first|(go_at_call 168;(with_reducible refine(Ge L p b k t (now+y) _ ρB len y ρa ρa ρa g2 g3).mono ?_);rintro e w3 ⟨rfl,L3,K3⟩;have cL3:=L3.cell;have zL3:=L3.size))
  all_goals
   go_wp2;go_returns;exact⟨rfl,L3,by first|exact K2.trans K3|exact K2.drew.trans K3|exact(K2.drewN _).trans K3⟩
end
end Go.Proofs.YtfdlemkplejdnaaGreat
