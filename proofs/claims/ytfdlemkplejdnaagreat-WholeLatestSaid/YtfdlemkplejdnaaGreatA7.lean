/- WholeLatest, part 7. Conditions: none. -/
import Derived.Test.YtfdlemkplejdnaaGreatA3
namespace Go.Proofs.YtfdlemkplejdnaaGreat
open Go.RowKit Go.Sort
open Value renaming int->ι,pointer->ψ,slice->ζ,tuple->χ,agg->φ,map->μ,bool->β
open IntKind renaming u64->υ,i64->ε,u16->ω
open Ending renaming returned->ϰ
open Go.Proofs.Tryz renaming prog->Ψ,underlying3->Θ,underlying147->Δ,underlying152->Γ,underlying202->Φ,underlying39->Ξ,underlying207->Ω
open Go renaming World->ϖ,Value->ϗ
set_option linter.unusedVariables false
set_option linter.unusedSimpArgs false
set_option maxHeartbeats 8000000
set_option maxRecDepth 100000
abbrev cls (id par:Int)(lf:Bool)(r0 r1 r2 l0 l1 l2 u0 u1 u2 pk by_:Int):ϗ:=φ #[ι ε id,ι ε par,β lf,ι υ r0,ι υ r1,ι υ r2,ι υ l0,ι υ l1,ι υ l2,ι υ u0,ι υ u1,ι υ u2,ι ε pk,ι ε by_]
def dv (k:Int):Bool:=decide (1<k)
def rm (n l m:Int):Bool:=decide (l<=n/\n<=m)
theorem pu (m d n:Int)(w:ϖ)(h:0<=m/\0<=d/\0<=n):
  CB 138 #[φ (aH m d n)] w (β (dv (kd m d n))):=by
 rcases hc:dv (kd m d n) with _|_
 all_goals
  have hd:decide (1<kd m d n)=_:=hc;clear hc;unfold CB;go_in;go_wp2_with fail;refine(bS m d n _ _ h.1 h.2.1 h.2.2 rfl).mono ?_;refine δE ?_;intro w1 g1 KN;go_wp2;go_ret;exact⟨rfl,ρE⟩
theorem bK (m d n:Int)(w:ϖ)(h:0<=m/\0<=d/\0<=n)(b:Bool)(hb:(kd m d n !=0)=b):
  CB 182 #[φ (aH m d n)] w (β b):=by
 subst hb;unfold CB;go_in;go_wp2_with fail;refine(bS m d n _ _ h.1 h.2.1 h.2.2 rfl).mono ?_;refine δE ?_;intro w1 g1 KN;go_wp2;go_ret;exact⟨rfl,ρE⟩
theorem aJ (n l m:Int)(w:ϖ):Calls Ψ 229 #[ι ε n,ι ε l,ι ε m] w λe w'=>e=ϰ (β (rm n l m))/\w=w':=by
 by_cases h1:l<=n
 ·by_cases h2:n<=m
  ·rw[show rm n l m=true from qT ⟨h1,h2⟩];have d1:=qT h1;exact ξy
  ·rw[show rm n l m=false from qF λh=>h2 h.2];have d1:=qT h1;have d2:=qF h2;exact ξy
 ·rw[show rm n l m=false from qF λh=>h1 h.1];have d1:=qF h1;exact ξy
theorem bi (id par:Int)(lf:Bool)(r0 r1 r2 l0 l1 l2 u0 u1 u2 pk by_:Int)(w:ϖ)(h:0<=r0/\0<=r1/\0<=r2):
  CB 118 #[cls id par lf r0 r1 r2 l0 l1 l2 u0 u1 u2 pk by_] w (β (dv (kd r0 r1 r2))):=by
 unfold CB;go_in;go_wp2_with fail;refine(pu r0 r1 r2 _ h).mono ?_;refine δE ?_;intro w1 g1 KN;go_wp2;go_ret;exact⟨rfl,ρE⟩
theorem aO (id par:Int)(lf:Bool)(r0 r1 r2 l0 l1 l2 u0 u1 u2 pk by_:Int)(w:ϖ)(h:0<=l0/\0<=l1/\0<=l2):
  CB 105 #[cls id par lf r0 r1 r2 l0 l1 l2 u0 u1 u2 pk by_] w (β (dv (kd l0 l1 l2))):=by
 unfold CB;go_in;go_wp2_with fail;refine(pu l0 l1 l2 _ h).mono ?_;refine δE ?_;intro w1 g1 KN;go_wp2;go_ret;exact⟨rfl,ρE⟩
theorem aL (id par:Int)(lf:Bool)(r0 r1 r2 l0 l1 l2 u0 u1 u2 pk by_:Int)(w:ϖ)(h:0<=u0/\0<=u1/\0<=u2):
  CB 230 #[cls id par lf r0 r1 r2 l0 l1 l2 u0 u1 u2 pk by_] w (β (dv (kd u0 u1 u2))):=by
 unfold CB;go_in;go_wp2_with fail;refine(pu u0 u1 u2 _ h).mono ?_;refine δE ?_;intro w1 g1 KN;go_wp2;go_ret;exact⟨rfl,ρE⟩
def wr (id par:Int)(lf:Bool)(r l u pk by_:Int):Int:=
 if id<1\/65536<id\/par<0\/65536<par\/id=par then 1
 else if r=0\/l=0\/u=0\/l=4\/u=4 then 21
 else if 1<u/\l=1 then 29
 else if lf=true then (if pk<1\/64<pk\/by_<1\/1048576<by_\/r=1/\l=1 then 29 else 0)
 else if pk≠0\/by_≠0\/r≠1 then 29 else 0
theorem zj (id par:Int)(lf:Bool)(r0 r1 r2 l0 l1 l2 u0 u1 u2 pk by_:Int)(w:ϖ)(h:id<1\/65536<id\/par<0\/65536<par\/id=par):
  CB 175 #[cls id par lf r0 r1 r2 l0 l1 l2 u0 u1 u2 pk by_] w Ko:=by
 by_cases h1:1<=id/\id<=65536
 ·have f1:rm id 1 65536=true:=qT h1;by_cases h2:0<=par/\par<=65536
  ·have f2:rm par 0 65536=true:=qT h2;have f3:(par==id)=true:=beq_iff_eq.2 ρa;exact ξN
  ·have f2:rm par 0 65536=false:=qF h2;exact ξN
 ·have f1:rm id 1 65536=false:=qF h1;exact ξN
theorem zq (id par:Int)(lf:Bool)(r0 r1 r2 l0 l1 l2 u0 u1 u2 pk by_:Int)(w:ϖ)(hr:0<=r0/\0<=r1/\0<=r2)(hl:0<=l0/\0<=l1/\0<=l2)(hu:0<=u0/\0<=u1/\0<=u2)(Oa:1<=id/\id<=65536)(Lj:0<=par/\par<=65536)(KI:id≠par)(qr:(kd r0 r1 r2 !=0)=false):
  CB 175 #[cls id par lf r0 r1 r2 l0 l1 l2 u0 u1 u2 pk by_] w (ι ε 21):=by
 refine ηZ ?_;intro f1 f2 f3 i0 i1 i2;unfold CB;go_in;go_wp2_with (first|(go_at_call 229;refine(aJ _ _ _ _).mono ?_;rintro e w' ⟨rfl,rfl⟩));refine wp_loop_rounds 4 ?_;rw[di];go_wp2_with fail;refine(bK r0 r1 r2 _ hr false qr).mono ?_;refine δp ?_;intro w1 Kr A1;refine η0 ?_;intro g1 KN;clear Kr;have Rr:=A1.r;go_wp2;go_ret;exact⟨rfl,ρE⟩
theorem zl (id par:Int)(lf:Bool)(r0 r1 r2 l0 l1 l2 u0 u1 u2 pk by_:Int)(w:ϖ)(hr:0<=r0/\0<=r1/\0<=r2)(hl:0<=l0/\0<=l1/\0<=l2)(hu:0<=u0/\0<=u1/\0<=u2)(Oa:1<=id/\id<=65536)(Lj:0<=par/\par<=65536)(KI:id≠par)(qr:(kd r0 r1 r2 !=0)=true)(ql:(kd l0 l1 l2 !=0)=false):
  CB 175 #[cls id par lf r0 r1 r2 l0 l1 l2 u0 u1 u2 pk by_] w (ι ε 21):=by
 refine ηZ ?_;intro f1 f2 f3 i0 i1 i2;unfold CB;go_in;go_wp2_with (first|(go_at_call 229;refine(aJ _ _ _ _).mono ?_;rintro e w' ⟨rfl,rfl⟩));refine wp_loop_rounds 4 ?_;rw[di];go_wp2_with fail;refine δN ?_;intro w1 A1 g1 KN Rr;go_wp2;rw[di];go_wp2_with fail;refine(bK l0 l1 l2 _ hl false ql).mono ?_;rintro e w2 ⟨rfl,Kx⟩;have A2:=A1.tr Kx;have Oz:ah w2 w1 (aH l0 l1 l2) 41:=Zv Kx;refine η9 ?_;intro g2 Li;clear Kx;replace Rr:=θ2 A2.r Oz.r;go_wp2;go_ret;exact⟨rfl,ρE⟩
theorem zm (id par:Int)(lf:Bool)(r0 r1 r2 l0 l1 l2 u0 u1 u2 pk by_:Int)(w:ϖ)(hr:0<=r0/\0<=r1/\0<=r2)(hl:0<=l0/\0<=l1/\0<=l2)(hu:0<=u0/\0<=u1/\0<=u2)(Oa:1<=id/\id<=65536)(Lj:0<=par/\par<=65536)(KI:id≠par)(qr:(kd r0 r1 r2 !=0)=true)(ql:(kd l0 l1 l2 !=0)=true)(sl:(kd l0 l1 l2==4)=true):
  CB 175 #[cls id par lf r0 r1 r2 l0 l1 l2 u0 u1 u2 pk by_] w (ι ε 21):=by
 refine ηZ ?_;intro f1 f2 f3 i0 i1 i2;unfold CB;go_in;go_wp2_with (first|(go_at_call 229;refine(aJ _ _ _ _).mono ?_;rintro e w' ⟨rfl,rfl⟩));refine wp_loop_rounds 4 ?_;rw[di];go_wp2_with fail;refine δN ?_;intro w1 A1 g1 KN Rr;go_wp2;rw[di];go_wp2_with fail;refine δn ?_;intro w2 Kx A2 Oz;refine η9 ?_;intro g2 Li;clear Kx;replace Rr:=θ2 A2.r Oz.r;go_wp2_with fail;refine δi ?_;clear Rr;intro w3 A3 Ql g3 NW Rr;go_wp2;go_ret;exact⟨rfl,ρE⟩
theorem zr (id par:Int)(lf:Bool)(r0 r1 r2 l0 l1 l2 u0 u1 u2 pk by_:Int)(w:ϖ)(hr:0<=r0/\0<=r1/\0<=r2)(hl:0<=l0/\0<=l1/\0<=l2)(hu:0<=u0/\0<=u1/\0<=u2)(Oa:1<=id/\id<=65536)(Lj:0<=par/\par<=65536)(KI:id≠par)(qr:(kd r0 r1 r2 !=0)=true)(ql:(kd l0 l1 l2 !=0)=true)(qu:(kd u0 u1 u2 !=0)=false)(sl:(kd l0 l1 l2==4)=false):
  CB 175 #[cls id par lf r0 r1 r2 l0 l1 l2 u0 u1 u2 pk by_] w (ι ε 21):=by
 refine ηZ ?_;intro f1 f2 f3 i0 i1 i2;unfold CB;go_in;go_wp2_with (first|(go_at_call 229;refine(aJ _ _ _ _).mono ?_;rintro e w' ⟨rfl,rfl⟩));refine wp_loop_rounds 4 ?_;rw[di];go_wp2_with fail;refine δN ?_;intro w1 A1 g1 KN Rr;go_wp2;rw[di];go_wp2_with fail;refine δn ?_;intro w2 Kx A2 Oz;refine η9 ?_;intro g2 Li;clear Kx;replace Rr:=θ2 A2.r Oz.r;go_wp2_with fail;refine δi ?_;clear Rr;intro w3 A3 Ql g3 NW Rr;go_wp2;rw[di];go_wp2_with fail;refine(bK u0 u1 u2 _ hu false qu).mono ?_;refine δt ?_;clear Rr;intro w4 A4 QL g4 Sc Rr;go_wp2;go_ret;exact⟨rfl,ρE⟩
theorem zD (id par:Int)(lf:Bool)(r0 r1 r2 l0 l1 l2 u0 u1 u2 pk by_:Int)(w:ϖ)(hr:0<=r0/\0<=r1/\0<=r2)(hl:0<=l0/\0<=l1/\0<=l2)(hu:0<=u0/\0<=u1/\0<=u2)(Oa:1<=id/\id<=65536)(Lj:0<=par/\par<=65536)(KI:id≠par)(qr:(kd r0 r1 r2 !=0)=true)(ql:(kd l0 l1 l2 !=0)=true)(qu:(kd u0 u1 u2 !=0)=true)(sl:(kd l0 l1 l2==4)=false)(su:(kd u0 u1 u2==4)=true):
  CB 175 #[cls id par lf r0 r1 r2 l0 l1 l2 u0 u1 u2 pk by_] w (ι ε 21):=by
 refine ηZ ?_;intro f1 f2 f3 i0 i1 i2;unfold CB;go_in;go_wp2_with (first|(go_at_call 229;refine(aJ _ _ _ _).mono ?_;rintro e w' ⟨rfl,rfl⟩));refine wp_loop_rounds 4 ?_;rw[di];go_wp2_with fail;refine δN ?_;intro w1 A1 g1 KN Rr;go_wp2;rw[di];go_wp2_with fail;refine δn ?_;intro w2 Kx A2 Oz;refine η9 ?_;intro g2 Li;clear Kx;replace Rr:=θ2 A2.r Oz.r;go_wp2_with fail;refine δi ?_;clear Rr;intro w3 A3 Ql g3 NW Rr;go_wp2;rw[di];go_wp2_with fail;refine(bK u0 u1 u2 _ hu true qu).mono ?_;refine δt ?_;clear Rr;intro w4 A4 QL g4 Sc Rr;go_wp2_with fail;refine δC ?_;clear Rr;intro w5 A5 Tl g5 SK Rr;go_wp2;go_ret;exact⟨rfl,ρE⟩
theorem AK (id par:Int)(lf:Bool)(r0 r1 r2 l0 l1 l2 u0 u1 u2 pk by_:Int)(w:ϖ)(hr:0<=r0/\0<=r1/\0<=r2)(hl:0<=l0/\0<=l1/\0<=l2)(hu:0<=u0/\0<=u1/\0<=u2)(y:id<1):
  CB 95 #[cls id par lf r0 r1 r2 l0 l1 l2 u0 u1 u2 pk by_] w Ko:=by
 have dd:decide (id<1)=true:=qT y;unfold CB;go_in;go_wp2;go_ret;exact⟨rfl,ρE⟩
theorem AM (id par:Int)(lf:Bool)(r0 r1 r2 l0 l1 l2 u0 u1 u2 pk by_:Int)(w:ϖ)(hr:0<=r0/\0<=r1/\0<=r2)(hl:0<=l0/\0<=l1/\0<=l2)(hu:0<=u0/\0<=u1/\0<=u2)(n0:¬id<1)(y:65536<id):
  CB 95 #[cls id par lf r0 r1 r2 l0 l1 l2 u0 u1 u2 pk by_] w Ko:=by
 have d0:decide (id<1)=false:=qF n0;have dd:decide (65536<id)=true:=qT y;unfold CB;go_in;go_wp2;go_ret;exact⟨rfl,ρE⟩
theorem AN (id par:Int)(lf:Bool)(r0 r1 r2 l0 l1 l2 u0 u1 u2 pk by_:Int)(w:ϖ)(hr:0<=r0/\0<=r1/\0<=r2)(hl:0<=l0/\0<=l1/\0<=l2)(hu:0<=u0/\0<=u1/\0<=u2)(n0:¬id<1)(n1:¬65536<id)(y:par<0):
  CB 95 #[cls id par lf r0 r1 r2 l0 l1 l2 u0 u1 u2 pk by_] w Ko:=by
 have d0:decide (id<1)=false:=qF n0;have d1:decide (65536<id)=false:=qF n1;have dd:decide (par<0)=true:=qT y;unfold CB;go_in;go_wp2;go_ret;exact⟨rfl,ρE⟩
theorem AO (id par:Int)(lf:Bool)(r0 r1 r2 l0 l1 l2 u0 u1 u2 pk by_:Int)(w:ϖ)(hr:0<=r0/\0<=r1/\0<=r2)(hl:0<=l0/\0<=l1/\0<=l2)(hu:0<=u0/\0<=u1/\0<=u2)(n0:¬id<1)(n1:¬65536<id)(n2:¬par<0)(y:65536<par):
  CB 95 #[cls id par lf r0 r1 r2 l0 l1 l2 u0 u1 u2 pk by_] w Ko:=by
 have d0:decide (id<1)=false:=qF n0;have d1:decide (65536<id)=false:=qF n1;have d2:decide (par<0)=false:=qF n2;have dd:decide (65536<par)=true:=qT y;unfold CB;go_in;go_wp2;go_ret;exact⟨rfl,ρE⟩
theorem AP (id par:Int)(lf:Bool)(r0 r1 r2 l0 l1 l2 u0 u1 u2 pk by_:Int)(w:ϖ)(hr:0<=r0/\0<=r1/\0<=r2)(hl:0<=l0/\0<=l1/\0<=l2)(hu:0<=u0/\0<=u1/\0<=u2)(n0:¬id<1)(n1:¬65536<id)(n2:¬par<0)(n3:¬65536<par)(y:id=par):
  CB 95 #[cls id par lf r0 r1 r2 l0 l1 l2 u0 u1 u2 pk by_] w Ko:=by
 have d0:decide (id<1)=false:=qF n0;have d1:decide (65536<id)=false:=qF n1;have d2:decide (par<0)=false:=qF n2;have d3:decide (65536<par)=false:=qF n3;have dd:(id==par)=true:=beq_iff_eq.2 y;clear y;unfold CB;go_in;go_wp2;go_ret;exact⟨rfl,ρE⟩
theorem CU (id par:Int)(lf:Bool)(r0 r1 r2 l0 l1 l2 u0 u1 u2 pk by_:Int)(w:ϖ)(hr:0<=r0/\0<=r1/\0<=r2)(hl:0<=l0/\0<=l1/\0<=l2)(hu:0<=u0/\0<=u1/\0<=u2)(Oa:1<=id/\id<=65536)(Lj:0<=par/\par<=65536)(KI:id≠par):
  CB 95 #[cls id par lf r0 r1 r2 l0 l1 l2 u0 u1 u2 pk by_] w (ι ε (wr id par lf (kd r0 r1 r2) (kd l0 l1 l2) (kd u0 u1 u2) pk by_)):=by
 have d1:=df (id<1);have d2:=df (65536<id);have d3:=df (par<0);have d4:=df (65536<par);have d5:(id==par)=false:=qN.2 KI;unfold CB;go_in;go_wp2_with fail;refine(bV r0 r1 r2 _ _ hr.1 hr.2.1 hr.2.2 rfl).mono ?_;refine δp ?_;intro w1 Kr A1;refine η0 ?_;intro g1 KN;clear Kr;have Rr:=A1.r;go_wp2_with fail;refine(bV l0 l1 l2 _ _ hl.1 hl.2.1 hl.2.2 rfl).mono ?_;rintro e w2 ⟨rfl,Kx⟩;have A2:=A1.tr Kx;refine η9 ?_;intro g2 Li;clear Kx;replace Rr:=A2.r;go_wp2_with fail;refine(bV u0 u1 u2 _ _ hu.1 hu.2.1 hu.2.2 rfl).mono ?_;rintro e w3 ⟨rfl,Lw⟩;have A3:=A2.tr Lw;refine δZ ?_;intro g3 NW;clear Lw;replace Rr:=A3.r;clear A1 A2 A3 g1 g2;go_wp2
 all_goals
  go_ret;refine⟨dY ?_,ρE⟩;have kr:=eP r0 r1 r2;have kl:=eP l0 l1 l2;have ku:=eP u0 u1 u2;generalize kd r0 r1 r2=r at*;generalize kd l0 l1 l2=l at*;generalize kd u0 u1 u2=u at*;clear g3;simp only[beq_iff_eq,qN,ne_eq] at*;cases lf<;>first|contradiction|(unfold wr;simp only[Bool.false_eq_true,if_false,if_true];(repeat' split)<;>first|omega|(exfalso;simp_all;done)|(simp_all;done)|(exfalso;simp_all;omega))
theorem xG (id par:Int)(lf:Bool)(r0 r1 r2 l0 l1 l2 u0 u1 u2 pk by_:Int)(w:ϖ)(hr:0<=r0/\0<=r1/\0<=r2)(hl:0<=l0/\0<=l1/\0<=l2)(hu:0<=u0/\0<=u1/\0<=u2)(c:Int)(h:wr id par lf (kd r0 r1 r2) (kd l0 l1 l2) (kd u0 u1 u2) pk by_=c):
  CB 95 #[cls id par lf r0 r1 r2 l0 l1 l2 u0 u1 u2 pk by_] w (ι ε c):=by
 subst h;by_cases h:id<1\/65536<id\/par<0\/65536<par\/id=par
 ·rw[show wr id par lf (kd r0 r1 r2) (kd l0 l1 l2) (kd u0 u1 u2) pk by_=1 by unfold wr;rw[qP h]];by_cases n0:id<1
  ·exact AK id par lf r0 r1 r2 l0 l1 l2 u0 u1 u2 pk by_ w hr hl hu n0
  by_cases n1:65536<id
  ·exact AM id par lf r0 r1 r2 l0 l1 l2 u0 u1 u2 pk by_ w hr hl hu n0 n1
  by_cases n2:par<0
  ·exact AN id par lf r0 r1 r2 l0 l1 l2 u0 u1 u2 pk by_ w hr hl hu n0 n1 n2
  by_cases n3:65536<par
  ·exact AO id par lf r0 r1 r2 l0 l1 l2 u0 u1 u2 pk by_ w hr hl hu n0 n1 n2 n3
  exact AP id par lf r0 r1 r2 l0 l1 l2 u0 u1 u2 pk by_ w hr hl hu n0 n1 n2 n3 ρa
 ·exact CU id par lf r0 r1 r2 l0 l1 l2 u0 u1 u2 pk by_ w hr hl hu ρa ρa ρa
def qd (lf P B Z Y R L U:Bool):Int:=if ((lf && !(P && B && (R || L))) || (!lf && !(Z && Y && !R)) || (U && !L))=true then 29 else 0
theorem AJ (id par:Int)(lf:Bool)(r l u pk by_:Int)(Oa:1<=id/\id<=65536)(Lj:0<=par/\par<=65536)(KI:id≠par)(hr:0<=r/\r<=4)(hl:0<=l/\l<=4)(hu:0<=u/\u<=4)(qr:r≠0)(ql:l≠0)(qu:u≠0)(sl:l≠4)(su:u≠4):
  wr id par lf r l u pk by_=qd lf (rm pk 1 64) (rm by_ 1 1048576) (pk==0) (by_==0) (dv r) (dv l) (dv u):=by
 have e0:(pk==0)=decide (pk=0):=rfl;have e1:(by_==0)=decide (by_=0):=rfl;rw[e0,e1];unfold wr qd rm dv;rw[qI ρa,qI ρa];cases lf
 ·by_cases a:pk=0<;>by_cases b:by_=0<;>by_cases c:1<r<;>by_cases d:1<l<;>by_cases e:1<u<;>simp[a,b,c,d,e]<;>(repeat' split)<;>omega
 ·by_cases a:1<=pk/\pk<=64<;>by_cases b:1<=by_/\by_<=1048576<;>by_cases c:1<r<;>by_cases d:1<l<;>by_cases e:1<u<;>simp[a,b,c,d,e]<;>(repeat' split)<;>omega
theorem nw (id par:Int)(r0 r1 r2 l0 l1 l2 u0 u1 u2 pk by_:Int)(w:ϖ)(hr:0<=r0/\0<=r1/\0<=r2)(hl:0<=l0/\0<=l1/\0<=l2)(hu:0<=u0/\0<=u1/\0<=u2)(Oa:1<=id/\id<=65536)(Lj:0<=par/\par<=65536)(KI:id≠par)(qr:(kd r0 r1 r2 !=0)=true)(ql:(kd l0 l1 l2 !=0)=true)(qu:(kd u0 u1 u2 !=0)=true)(sl:(kd l0 l1 l2==4)=false)(su:(kd u0 u1 u2==4)=false):
  CB 175 #[cls id par true r0 r1 r2 l0 l1 l2 u0 u1 u2 pk by_] w (ι ε (wr id par true (kd r0 r1 r2) (kd l0 l1 l2) (kd u0 u1 u2) pk by_)):=by
 rw[AJ id par true (kd r0 r1 r2) (kd l0 l1 l2) (kd u0 u1 u2) pk by_ Oa Lj KI (eP _ _ _) (eP _ _ _) (eP _ _ _) (bne_iff_ne.1 qr) (bne_iff_ne.1 ql) (bne_iff_ne.1 qu) (qN.1 sl) (qN.1 su)];refine ηZ ?_;intro f1 f2 f3 i0 i1 i2;unfold CB;go_in;go_wp2_with (first|(go_at_call 229;refine(aJ _ _ _ _).mono ?_;rintro e w' ⟨rfl,rfl⟩));refine wp_loop_rounds 4 ?_;rw[di];go_wp2_with fail;refine(bK r0 r1 r2 _ hr true qr).mono ?_;rintro e w1 ⟨rfl,Kr⟩;have A1:ah w1 w (lp id par true r0 r1 r2 l0 l1 l2 u0 u1 u2 pk by_) 43:=Zv Kr;refine η0 ?_;intro g1 KN;clear Kr;have Rr:=A1.r;go_wp2;rw[di];go_wp2_with fail;refine δn ?_;intro w2 Kx A2 Oz;refine η9 ?_;intro g2 Li;clear Kx;replace Rr:=θ2 A2.r Oz.r;go_wp2_with fail;refine δi ?_;clear Rr;intro w3 A3 Ql g3 NW Rr;go_wp2;rw[di];go_wp2_with fail;refine(bK u0 u1 u2 _ hu true qu).mono ?_;refine δt ?_;clear Rr;intro w4 A4 QL g4 Sc Rr;go_wp2_with fail;refine δC ?_;clear Rr;intro w5 A5 Tl g5 SK Rr;go_wp2;refine bZ (λv=>Below w w v/\ah v w (lp id par true r0 r1 r2 l0 l1 l2 u0 u1 u2 pk by_) 43) ⟨ρE,ρB⟩ ?_;clear i0 i1 i2 A1 A2 A3 A4 A5 Oz Ql QL Tl g1 g2 g3 g4 g5 f1 f2 f3;rintro w9 ⟨g9,A9⟩;have Ss:=A9.r;rw[di];rcases gp:rm pk 1 64 with _|_
 ·rcases gz:(pk==0) with _|_
  ·go_wp2_with (first|(go_at_call 229;refine(aJ _ _ _ _).mono ?_;rintro e w' ⟨rfl,rfl⟩)|(go_at_call 118;refine(bi id par true r0 r1 r2 l0 l1 l2 u0 u1 u2 pk by_ _ hr).mono ?_;refine bf ?_;intro w' f' KK KJ;have KA:=A9.tr f';have rA:=KA.r;clear f')|(go_at_call 105;refine(aO id par true r0 r1 r2 l0 l1 l2 u0 u1 u2 pk by_ _ hl).mono ?_;refine bf ?_;intro w' f' KK KJ;have KA:=A9.tr f';have rA:=KA.r;clear f')|(go_at_call 230;refine(aL id par true r0 r1 r2 l0 l1 l2 u0 u1 u2 pk by_ _ hu).mono ?_;refine bf ?_;intro w' f' KK KJ;have KA:=A9.tr f';have rA:=KA.r;clear f'));go_ret;exact⟨dY (by rw[gp,gz];simp[qd]),ρE⟩
  ·rcases gy:(by_==0) with _|_
   ·go_wp2_with (first|(go_at_call 229;refine(aJ _ _ _ _).mono ?_;rintro e w' ⟨rfl,rfl⟩)|(go_at_call 118;refine(bi id par true r0 r1 r2 l0 l1 l2 u0 u1 u2 pk by_ _ hr).mono ?_;refine bf ?_;intro w' f' KK KJ;have KA:=A9.tr f';have rA:=KA.r;clear f')|(go_at_call 105;refine(aO id par true r0 r1 r2 l0 l1 l2 u0 u1 u2 pk by_ _ hl).mono ?_;refine bf ?_;intro w' f' KK KJ;have KA:=A9.tr f';have rA:=KA.r;clear f')|(go_at_call 230;refine(aL id par true r0 r1 r2 l0 l1 l2 u0 u1 u2 pk by_ _ hu).mono ?_;refine bf ?_;intro w' f' KK KJ;have KA:=A9.tr f';have rA:=KA.r;clear f'));go_ret;exact⟨dY (by rw[gp,gz,gy];simp[qd]),ρE⟩
   ·rcases gr:dv (kd r0 r1 r2) with _|_
    ·exact ξp
    ·exact ξp
 ·have gz:(pk==0)=false:=by have:=of_decide_eq_true gp;exact qN.2 ρa
  rcases gb:rm by_ 1 1048576 with _|_
  ·go_wp2_with (first|(go_at_call 229;refine(aJ _ _ _ _).mono ?_;rintro e w' ⟨rfl,rfl⟩)|(go_at_call 118;refine(bi id par true r0 r1 r2 l0 l1 l2 u0 u1 u2 pk by_ _ hr).mono ?_;refine bf ?_;intro w' f' KK KJ;have KA:=A9.tr f';have rA:=KA.r;clear f')|(go_at_call 105;refine(aO id par true r0 r1 r2 l0 l1 l2 u0 u1 u2 pk by_ _ hl).mono ?_;refine bf ?_;intro w' f' KK KJ;have KA:=A9.tr f';have rA:=KA.r;clear f')|(go_at_call 230;refine(aL id par true r0 r1 r2 l0 l1 l2 u0 u1 u2 pk by_ _ hu).mono ?_;refine bf ?_;intro w' f' KK KJ;have KA:=A9.tr f';have rA:=KA.r;clear f'));go_ret;exact⟨dY (by rw[gp,gz,gb];simp[qd]),ρE⟩
  ·rcases gr:dv (kd r0 r1 r2) with _|_
   ·rcases gl:dv (kd l0 l1 l2) with _|_
    ·go_wp2_with (first|(go_at_call 229;refine(aJ _ _ _ _).mono ?_;rintro e w' ⟨rfl,rfl⟩)|(go_at_call 118;refine(bi id par true r0 r1 r2 l0 l1 l2 u0 u1 u2 pk by_ _ hr).mono ?_;refine bf ?_;intro w' f' KK KJ;have KA:=A9.tr f';have rA:=KA.r;clear f')|(go_at_call 105;refine(aO id par true r0 r1 r2 l0 l1 l2 u0 u1 u2 pk by_ _ hl).mono ?_;refine bf ?_;intro w' f' KK KJ;have KA:=A9.tr f';have rA:=KA.r;clear f')|(go_at_call 230;refine(aL id par true r0 r1 r2 l0 l1 l2 u0 u1 u2 pk by_ _ hu).mono ?_;refine bf ?_;intro w' f' KK KJ;have KA:=A9.tr f';have rA:=KA.r;clear f'));go_ret;exact⟨dY (by rw[gp,gz,gb,gr,gl];simp[qd]),ρE⟩
    ·rcases gu:dv (kd u0 u1 u2) with _|_
     ·exact ξm
     ·exact ξm
   ·rcases gu:dv (kd u0 u1 u2) with _|_
    ·go_wp2_with (first|(go_at_call 229;refine(aJ _ _ _ _).mono ?_;rintro e w' ⟨rfl,rfl⟩)|(go_at_call 118;refine(bi id par true r0 r1 r2 l0 l1 l2 u0 u1 u2 pk by_ _ hr).mono ?_;refine bf ?_;intro w' f' KK KJ;have KA:=A9.tr f';have rA:=KA.r;clear f')|(go_at_call 105;refine(aO id par true r0 r1 r2 l0 l1 l2 u0 u1 u2 pk by_ _ hl).mono ?_;refine bf ?_;intro w' f' KK KJ;have KA:=A9.tr f';have rA:=KA.r;clear f')|(go_at_call 230;refine(aL id par true r0 r1 r2 l0 l1 l2 u0 u1 u2 pk by_ _ hu).mono ?_;refine bf ?_;intro w' f' KK KJ;have KA:=A9.tr f';have rA:=KA.r;clear f'));go_ret;exact⟨dY (by rw[gp,gz,gb,gr,gu];simp[qd]),ρE⟩
    ·rcases gl:dv (kd l0 l1 l2) with _|_
     ·exact ξn
     ·exact ξn
theorem mF (id par:Int)(r0 r1 r2 l0 l1 l2 u0 u1 u2 pk by_:Int)(w:ϖ)(hr:0<=r0/\0<=r1/\0<=r2)(hl:0<=l0/\0<=l1/\0<=l2)(hu:0<=u0/\0<=u1/\0<=u2)(Oa:1<=id/\id<=65536)(Lj:0<=par/\par<=65536)(KI:id≠par)(qr:(kd r0 r1 r2 !=0)=true)(ql:(kd l0 l1 l2 !=0)=true)(qu:(kd u0 u1 u2 !=0)=true)(sl:(kd l0 l1 l2==4)=false)(su:(kd u0 u1 u2==4)=false):
  CB 175 #[cls id par false r0 r1 r2 l0 l1 l2 u0 u1 u2 pk by_] w (ι ε (wr id par false (kd r0 r1 r2) (kd l0 l1 l2) (kd u0 u1 u2) pk by_)):=by
 rw[AJ id par false (kd r0 r1 r2) (kd l0 l1 l2) (kd u0 u1 u2) pk by_ Oa Lj KI (eP _ _ _) (eP _ _ _) (eP _ _ _) (bne_iff_ne.1 qr) (bne_iff_ne.1 ql) (bne_iff_ne.1 qu) (qN.1 sl) (qN.1 su)];refine ηZ ?_;intro f1 f2 f3 i0 i1 i2;unfold CB;go_in;go_wp2_with (first|(go_at_call 229;refine(aJ _ _ _ _).mono ?_;rintro e w' ⟨rfl,rfl⟩));refine wp_loop_rounds 4 ?_;rw[di];go_wp2_with fail;refine(bK r0 r1 r2 _ hr true qr).mono ?_;rintro e w1 ⟨rfl,Kr⟩;have A1:ah w1 w (lp id par false r0 r1 r2 l0 l1 l2 u0 u1 u2 pk by_) 43:=Zv Kr;refine η0 ?_;intro g1 KN;clear Kr;have Rr:=A1.r;go_wp2;rw[di];go_wp2_with fail;refine δn ?_;intro w2 Kx A2 Oz;refine η9 ?_;intro g2 Li;clear Kx;replace Rr:=θ2 A2.r Oz.r;go_wp2_with fail;refine δi ?_;clear Rr;intro w3 A3 Ql g3 NW Rr;go_wp2;rw[di];go_wp2_with fail;refine(bK u0 u1 u2 _ hu true qu).mono ?_;refine δt ?_;clear Rr;intro w4 A4 QL g4 Sc Rr;go_wp2_with fail;refine δC ?_;clear Rr;intro w5 A5 Tl g5 SK Rr;go_wp2;refine bZ (λv=>Below w w v/\ah v w (lp id par false r0 r1 r2 l0 l1 l2 u0 u1 u2 pk by_) 43) ⟨ρE,ρB⟩ ?_;clear i0 i1 i2 A1 A2 A3 A4 A5 Oz Ql QL Tl g1 g2 g3 g4 g5 f1 f2 f3;rintro w9 ⟨g9,A9⟩;have Ss:=A9.r;rw[di];rcases gp:rm pk 1 64 with _|_
 ·rcases gz:(pk==0) with _|_
  ·go_wp2_with (first|(go_at_call 229;refine(aJ _ _ _ _).mono ?_;rintro e w' ⟨rfl,rfl⟩)|(go_at_call 118;refine(bi id par false r0 r1 r2 l0 l1 l2 u0 u1 u2 pk by_ _ hr).mono ?_;refine bf ?_;intro w' f' KK KJ;have KA:=A9.tr f';have rA:=KA.r;clear f')|(go_at_call 105;refine(aO id par false r0 r1 r2 l0 l1 l2 u0 u1 u2 pk by_ _ hl).mono ?_;refine bf ?_;intro w' f' KK KJ;have KA:=A9.tr f';have rA:=KA.r;clear f')|(go_at_call 230;refine(aL id par false r0 r1 r2 l0 l1 l2 u0 u1 u2 pk by_ _ hu).mono ?_;refine bf ?_;intro w' f' KK KJ;have KA:=A9.tr f';have rA:=KA.r;clear f'));go_ret;exact⟨dY (by rw[gp,gz];simp[qd]),ρE⟩
  ·rcases gy:(by_==0) with _|_
   ·go_wp2_with (first|(go_at_call 229;refine(aJ _ _ _ _).mono ?_;rintro e w' ⟨rfl,rfl⟩)|(go_at_call 118;refine(bi id par false r0 r1 r2 l0 l1 l2 u0 u1 u2 pk by_ _ hr).mono ?_;refine bf ?_;intro w' f' KK KJ;have KA:=A9.tr f';have rA:=KA.r;clear f')|(go_at_call 105;refine(aO id par false r0 r1 r2 l0 l1 l2 u0 u1 u2 pk by_ _ hl).mono ?_;refine bf ?_;intro w' f' KK KJ;have KA:=A9.tr f';have rA:=KA.r;clear f')|(go_at_call 230;refine(aL id par false r0 r1 r2 l0 l1 l2 u0 u1 u2 pk by_ _ hu).mono ?_;refine bf ?_;intro w' f' KK KJ;have KA:=A9.tr f';have rA:=KA.r;clear f'));go_ret;exact⟨dY (by rw[gp,gz,gy];simp[qd]),ρE⟩
   ·rcases gr:dv (kd r0 r1 r2) with _|_
    ·rcases gu:dv (kd u0 u1 u2) with _|_
     ·go_wp2_with (first|(go_at_call 229;refine(aJ _ _ _ _).mono ?_;rintro e w' ⟨rfl,rfl⟩)|(go_at_call 118;refine(bi id par false r0 r1 r2 l0 l1 l2 u0 u1 u2 pk by_ _ hr).mono ?_;refine bf ?_;intro w' f' KK KJ;have KA:=A9.tr f';have rA:=KA.r;clear f')|(go_at_call 105;refine(aO id par false r0 r1 r2 l0 l1 l2 u0 u1 u2 pk by_ _ hl).mono ?_;refine bf ?_;intro w' f' KK KJ;have KA:=A9.tr f';have rA:=KA.r;clear f')|(go_at_call 230;refine(aL id par false r0 r1 r2 l0 l1 l2 u0 u1 u2 pk by_ _ hu).mono ?_;refine bf ?_;intro w' f' KK KJ;have KA:=A9.tr f';have rA:=KA.r;clear f'));go_ret;exact⟨dY (by rw[gp,gz,gy,gr,gu];simp[qd]),ρE⟩
     ·rcases gl:dv (kd l0 l1 l2) with _|_
      ·exact ξl
      ·exact ξl
    ·go_wp2_with (first|(go_at_call 229;refine(aJ _ _ _ _).mono ?_;rintro e w' ⟨rfl,rfl⟩)|(go_at_call 118;refine(bi id par false r0 r1 r2 l0 l1 l2 u0 u1 u2 pk by_ _ hr).mono ?_;refine bf ?_;intro w' f' KK KJ;have KA:=A9.tr f';have rA:=KA.r;clear f')|(go_at_call 105;refine(aO id par false r0 r1 r2 l0 l1 l2 u0 u1 u2 pk by_ _ hl).mono ?_;refine bf ?_;intro w' f' KK KJ;have KA:=A9.tr f';have rA:=KA.r;clear f')|(go_at_call 230;refine(aL id par false r0 r1 r2 l0 l1 l2 u0 u1 u2 pk by_ _ hu).mono ?_;refine bf ?_;intro w' f' KK KJ;have KA:=A9.tr f';have rA:=KA.r;clear f'));go_ret;exact⟨dY (by rw[gp,gz,gy,gr];simp[qd]),ρE⟩
 ·have gz:(pk==0)=false:=by have:=of_decide_eq_true gp;exact qN.2 ρa
  rcases gb:rm by_ 1 1048576 with _|_
  ·go_wp2_with (first|(go_at_call 229;refine(aJ _ _ _ _).mono ?_;rintro e w' ⟨rfl,rfl⟩)|(go_at_call 118;refine(bi id par false r0 r1 r2 l0 l1 l2 u0 u1 u2 pk by_ _ hr).mono ?_;refine bf ?_;intro w' f' KK KJ;have KA:=A9.tr f';have rA:=KA.r;clear f')|(go_at_call 105;refine(aO id par false r0 r1 r2 l0 l1 l2 u0 u1 u2 pk by_ _ hl).mono ?_;refine bf ?_;intro w' f' KK KJ;have KA:=A9.tr f';have rA:=KA.r;clear f')|(go_at_call 230;refine(aL id par false r0 r1 r2 l0 l1 l2 u0 u1 u2 pk by_ _ hu).mono ?_;refine bf ?_;intro w' f' KK KJ;have KA:=A9.tr f';have rA:=KA.r;clear f'));go_ret;exact⟨dY (by rw[gp,gz,gb];simp[qd]),ρE⟩
  ·rcases gr:dv (kd r0 r1 r2) with _|_
   ·rcases gl:dv (kd l0 l1 l2) with _|_
    ·exact ξo
    ·exact ξo
   ·go_wp2_with (first|(go_at_call 229;refine(aJ _ _ _ _).mono ?_;rintro e w' ⟨rfl,rfl⟩)|(go_at_call 118;refine(bi id par false r0 r1 r2 l0 l1 l2 u0 u1 u2 pk by_ _ hr).mono ?_;refine bf ?_;intro w' f' KK KJ;have KA:=A9.tr f';have rA:=KA.r;clear f')|(go_at_call 105;refine(aO id par false r0 r1 r2 l0 l1 l2 u0 u1 u2 pk by_ _ hl).mono ?_;refine bf ?_;intro w' f' KK KJ;have KA:=A9.tr f';have rA:=KA.r;clear f')|(go_at_call 230;refine(aL id par false r0 r1 r2 l0 l1 l2 u0 u1 u2 pk by_ _ hu).mono ?_;refine bf ?_;intro w' f' KK KJ;have KA:=A9.tr f';have rA:=KA.r;clear f'));go_ret;exact⟨dY (by rw[gp,gz,gb,gr];simp[qd]),ρE⟩
section
open Go.ChangeShapes Go.WideShapes Go.ChangeAt Go.RowKit
section
variable {H:Type} {w:ϖ} {base:Nat} {Lb:Nat->Bool} {LG:Bool} {enc:TypeId × ϗ->H}
end
theorem oq (id par:Int)(lf:Bool)(r0 r1 r2 l0 l1 l2 u0 u1 u2 pk by_:Int)(w:ϖ)(hr:0<=r0/\0<=r1/\0<=r2)(hl:0<=l0/\0<=l1/\0<=l2)(hu:0<=u0/\0<=u1/\0<=u2)(c:Int)(h:wr id par lf (kd r0 r1 r2) (kd l0 l1 l2) (kd u0 u1 u2) pk by_=c):
  CB 175 #[cls id par lf r0 r1 r2 l0 l1 l2 u0 u1 u2 pk by_] w (ι ε c):=by
 subst h;by_cases h:id<1\/65536<id\/par<0\/65536<par\/id=par
 ·rw[show wr id par lf (kd r0 r1 r2) (kd l0 l1 l2) (kd u0 u1 u2) pk by_=1 by unfold wr;rw[qP h]];exact zj id par lf r0 r1 r2 l0 l1 l2 u0 u1 u2 pk by_ w h
 have bad:(kd r0 r1 r2=0\/kd l0 l1 l2=0\/kd u0 u1 u2=0\/kd l0 l1 l2=4\/kd u0 u1 u2=4)->wr id par lf (kd r0 r1 r2) (kd l0 l1 l2) (kd u0 u1 u2) pk by_=21:=by intro hb;unfold wr;rw[qI h,qP hb]
 have Oa:1<=id/\id<=65536:=ρa;have Lj:0<=par/\par<=65536:=ρa;have KI:id≠par:=ρa;rcases qr:(kd r0 r1 r2 !=0) with _|_
 ·rw[bad (.inl (by simpa using qr))];exact zq id par lf r0 r1 r2 l0 l1 l2 u0 u1 u2 pk by_ w hr hl hu Oa Lj KI qr
 rcases ql:(kd l0 l1 l2 !=0) with _|_
 ·rw[bad (.inr (.inl (by simpa using ql)))];exact zl id par lf r0 r1 r2 l0 l1 l2 u0 u1 u2 pk by_ w hr hl hu Oa Lj KI qr ql
 rcases sl:(kd l0 l1 l2==4) with _|_;case true=>rw[bad (.inr (.inr (.inr (.inl (by simpa using sl)))))];exact zm id par lf r0 r1 r2 l0 l1 l2 u0 u1 u2 pk by_ w hr hl hu Oa Lj KI qr ql sl
 rcases qu:(kd u0 u1 u2 !=0) with _|_
 ·rw[bad (.inr (.inr (.inl (by simpa using qu))))];exact zr id par lf r0 r1 r2 l0 l1 l2 u0 u1 u2 pk by_ w hr hl hu Oa Lj KI qr ql qu sl
 rcases su:(kd u0 u1 u2==4) with _|_;case true=>rw[bad (.inr (.inr (.inr (.inr (by simpa using su)))))];exact zD id par lf r0 r1 r2 l0 l1 l2 u0 u1 u2 pk by_ w hr hl hu Oa Lj KI qr ql qu sl su
 cases lf
 ·exact mF id par r0 r1 r2 l0 l1 l2 u0 u1 u2 pk by_ w hr hl hu Oa Lj KI qr ql qu sl su
 ·exact nw id par r0 r1 r2 l0 l1 l2 u0 u1 u2 pk by_ w hr hl hu Oa Lj KI qr ql qu sl su
theorem rb (w:ϖ)(id par:Int)(lf:Bool)(r0 r1 r2 l0 l1 l2 u0 u1 u2 pk by_:Int)(h:0<=r0/\0<=r1/\0<=r2)(b:Bool)(hb:dv (kd r0 r1 r2)=b):
  CB 118 #[cls id par lf r0 r1 r2 l0 l1 l2 u0 u1 u2 pk by_] w (β b):=by subst hb;exact bi _ _ _ _ _ _ _ _ _ _ _ _ _ _ w h
theorem lb (w:ϖ)(id par:Int)(lf:Bool)(r0 r1 r2 l0 l1 l2 u0 u1 u2 pk by_:Int)(h:0<=l0/\0<=l1/\0<=l2)(b:Bool)(hb:dv (kd l0 l1 l2)=b):
  CB 105 #[cls id par lf r0 r1 r2 l0 l1 l2 u0 u1 u2 pk by_] w (β b):=by subst hb;exact aO _ _ _ _ _ _ _ _ _ _ _ _ _ _ w h
theorem ub (w:ϖ)(id par:Int)(lf:Bool)(r0 r1 r2 l0 l1 l2 u0 u1 u2 pk by_:Int)(h:0<=u0/\0<=u1/\0<=u2)(b:Bool)(hb:dv (kd u0 u1 u2)=b):
  CB 230 #[cls id par lf r0 r1 r2 l0 l1 l2 u0 u1 u2 pk by_] w (β b):=by subst hb;exact aL _ _ _ _ _ _ _ _ _ _ _ _ _ _ w h
end
theorem ia {P:Program} {Ki:Array Oper} {rest:List Oper} {op:Oper} {a:Act} {w:ϖ} {Q:Exit->Act->ϖ->Prop} (ty:TypeId)(x y:Operand)(B o:Nat)(cs cs' Rh:Array ϗ)(t:TypeId)
  (Ns:op.guard=none) (ho:op.op=.store ty x y) (hx:a.eval x=ψ (some ⟨B,o,none⟩)) (hy:a.eval y=φ cs') (hB:ah w B cs t) (MH:o+cs'.size<=cs.size) (Oc:cV cs o cs'.toList=Rh) (hi:(P.info? ty).map (·.size)=some cs'.size) (h1:cs'.all (·.oneCell')=true)
  (h:∀w',ah w' B Rh t->(∀(K:Nat) (u:ϖ),K<=B->Below K u w->Below K u w')->(∀(b:Nat) (c:Array ϗ) (s:TypeId),b≠B->ah w b c s->ah w' b c s)->w'.heap.size=w->wpList P Ki Q rest (a.put op.dst undef) w'):wpList P Ki Q (op::rest) a w:=by
 refine wpList_store_mid Ns ty x y ho B o cs' hx hy (λj hj=>?_) hi h1 ?_
 ·exact ηx
 ·have hb:=ah.setCells cs'.toList o w cs hB;rw[Oc] at hb;exact ηA
theorem wH {P:Program} {Ki:Array Oper} {rest:List Oper} {op:Oper} {a:Act} {w:ϖ} {Q:Exit->Act->ϖ->Prop} (ty:TypeId)(x:Operand)(B o:Nat)(cs cs':Array ϗ)(t:TypeId)(d:TypeDesc)
  (Ns:op.guard=none) (ho:op.op=.load ty x) (hx:a.eval x=ψ (some ⟨B,o,none⟩)) (hB:ah w B cs t) (hc:∀j v,cs'.toList[j]?=some v->cs[o+j]?=some v) (hu:P.underlying ty=some d) (hd:d.isRow=true) (hi:(P.info? ty).map (·.size)=some cs'.size)
  (h:wpList P Ki Q rest (a.put op.dst (φ cs')) w):wpList P Ki Q (op::rest) a w:=by
 refine wpList_load_mid Ns ty x ho B o hx cs'.toList d (λj v hj=>?_) hu hd τj σ1;rw[hB.cell];exact hc j v hj
section
variable {P:Program} {Ki:Array Oper}
def uJ (L:Array Bool):Nat->Nat
 | 0=>0
 | k+1=>uJ L k+(if L.getD k false then 0 else 1)
theorem mT {L:Array Bool} {i:Nat}:∀k,k<=i->uJ (L.setIfInBounds i true) k=uJ L k
 | 0,_=>rfl
 | k+1,h=>by unfold uJ;rw[mT k ρa,getD_set_ne false ρa]
theorem i8 {L:Array Bool} {i:Nat} (h:i<L.size):(L.setIfInBounds i true).getD i false=true:=by simp[Array.getD_eq_getD_getElem?,h]
theorem vQ {L:Array Bool} {i:Nat} (hs:i<L.size)(h:L.getD i false=false):∀k,i<k->uJ (L.setIfInBounds i true) k+1=uJ L k
 | 0,hk=>by omega
 | k+1,hk=>by
  unfold uJ;by_cases e:i=k
  ·subst e;rw[mT i (qR _),i8 hs,h];simp
  ·have:=vQ hs h k ρa;rw[getD_set_ne false e];omega
theorem sX {L:Array Bool}:∀k,uJ L k=0->∀i,i<k->L.getD i false=true
 | 0,_,i,hi=>by omega
 | k+1,h,i,hi=>by
  unfold uJ at h;by_cases e:i=k
  ·subst e;by_cases hb:L.getD i false=true
   ·exact hb
   ·rw[qI hb] at h;omega
  ·exact sX k ρa i ρa
theorem vP (m:Nat):∀k,uJ (Array.replicate m false) k=k
 | 0=>rfl
 | k+1=>by unfold uJ;rw[vP m k,mp];simp
theorem jy (a:Act)(t:Tmp):a.eval (.tmp t)=a.tmps.getD t undef:=rfl
theorem dq (a:Act)(t:Tmp):a.tmps[t]?.getD undef=a.eval (.tmp t):=by rw[jy,Array.getD_eq_getD_getElem?]
theorem wq (a:Act)(n:Nat)(h:a.tmps.size=n):a=⟨((List.range n).map λt=>a.eval (.tmp t)).toArray,a.defers⟩:=by
 obtain⟨tmps,defers⟩:=a;simp only at h
 congr 1
 apply Array.ext
 ·simp[h]
 ·intro i h1 h2;simp[jy,Array.getD_eq_getD_getElem?,h1]
end
section
variable {P:Program} {Ki:Array Oper}
end
section
variable {P:Program} {Ki:Array Oper}
end
def AR (zs:List Int):Int:=zs.foldl min Mc
theorem yy (zs:List Int)(z:Int):AR (zs++[z])=min (AR zs) z:=by unfold AR;simp
def qh (w:ϖ)(a:Option Addr)(len:Nat)(zs:List Int):Prop:=
 zs.length=len/\(len=0\/∃b off,a=some ⟨b,off,none⟩/\∀i,i<len->w.cell? ⟨b,off+i,none⟩=some (ι υ (zs.getD i 0)))
theorem mQ (zs:List Int)(k:Nat)(h:k<zs.length):zs.take (k+1)=zs.take k++[zs.getD k 0]:=by rw[List.take_succ_eq_append_getElem h];simp[h]
theorem DP (a:Option Addr)(len Kt:Nat)(zs:List Int)(w:ϖ)(hr:qh w a len zs)(hm:len<=Mb)(hz:∀z ∈ zs,0<=z/\z<=Ma):Calls Ψ 169 #[ζ a len Kt] w λe w'=>e=ϰ (AR zs)/\w=w':=by
 obtain⟨KC,hr⟩:=hr;have Nk:AR (zs.take 0)=Mc:=rfl;have NG:=ag (show zs.take len=zs from List.take_of_length_le ρa);have hz':=ag hz;clear hz;have Tw:=ag KC;clear KC;have hr':=ag hr;clear hr;go_in;go_wp2;go_loop [3,8] (λt i=>∃k:Nat,k<=len/\i=ι ε k/\t=(AR (zs.take k))) (λ_ i=>len - (intOf i).toNat);case atStart=>exact⟨0,Nat.zero_le _,rfl,rfl⟩
 case round=>
  obtain⟨k,hk,rfl,rfl⟩:=hrel;by_cases Ku:k<len
  ·have hs:=mQ zs k (by rw[Tw.out];exact Ku);have hg:0<=zs.getD k 0/\zs.getD k 0<=Ma:=hz'.out _ (by have hq:k<zs.length:=(by rw[Tw.out];exact Ku);simp[hq]);have Qc:=ag (show AR (zs.take (k+1))=min (AR (zs.take k)) (zs.getD k 0) by rw[hs,yy]);clear hs;obtain⟨b,off,rfl,hc⟩:∃b off,a=some ⟨b,off,none⟩/\∀i,i<len->w.cell? ⟨b,off+i,none⟩=some (ι υ (zs.getD i 0)):=by
    rcases hr'.out with h|h
    ·omega
    ·exact h
   have Ol:=hc k Ku;clear hc;go_wp2;go_round;case rel=>exact⟨k+1,by omega,by go_num,by rw[Qc.out];refine qG _ ?_;(first|(show (if zs.getD k 0<_ then zs.getD k 0 else _)=_;split<;>omega)|simp)⟩
   case measure=>simp[intOf];omega
  ·obtain rfl:k=len:=by omega
   go_wp2;go_ret;exact⟨dY (by rw[NG.out]),rfl⟩
end Go.Proofs.YtfdlemkplejdnaaGreat
