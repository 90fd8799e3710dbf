/- WholeDelay, part 3. Conditions: none. -/
import Derived.Test.YtfdlemkplejdnaaGreatA2
import Derived.Laws.StructEq
namespace Go.Proofs.YtfdlemkplejdnaaGreat
open Go.RowKit Go.Sort
open Value renaming int->ι,pointer->ψ,slice->ζ,tuple->χ,agg->φ,map->μ,bool->β
open IntKind renaming u64->υ,i64->ε,u16->ω
open Ending renaming returned->ϰ
open Go.Proofs.Tryz renaming prog->Ψ,underlying3->Θ,underlying147->Δ,underlying152->Γ,underlying202->Φ,underlying39->Ξ,underlying207->Ω
open Go renaming World->ϖ,Value->ϗ
set_option linter.unusedVariables false
set_option linter.unusedSimpArgs false
set_option maxHeartbeats 8000000
set_option maxRecDepth 100000
def kd (m d n:Int):Int:=
 if m=0/\d=0/\n=0 then 1 else if Md<m\/Md<n\/1048576<d then 0 else if d=0/\m=n then 2 else if 0<d/\n<m then 3 else if 0<d/\m=0/\0<n then 4 else 0
theorem eK (m d n:Int):0<=kd m d n/\kd m d n<=4:=by unfold kd;(repeat' split)<;>omega
theorem GY (w:ϖ):
  CB 173 #[φ (aJ 0 0 0)] w Ko:=by
 unfold CB;go_in;go_wp2
 all_goals
  go_ret;exact⟨rfl,ρE⟩
theorem AF (m:Int)(w:ϖ)(pm:0<m)(y0:Md<m):
  CB 173 #[φ (aJ m 0 0)] w Kz:=by
 have nm:(m==0)=false:=ZN.2 ρa;refine δo ?_;intro Qq aX;unfold CB;go_in;go_wp2
 all_goals
  go_ret;exact⟨rfl,ρE⟩
theorem AE (m n:Int)(w:ϖ)(pm:0<m)(pn:0<n)(y0:Md<m):
  CB 173 #[φ (aJ m 0 n)] w Kz:=by
 have nm:(m==0)=false:=ZN.2 ρa;have nn:(n==0)=false:=ZN.2 ρa;refine δo ?_;intro Qq aX;unfold CB;go_in;go_wp2
 all_goals
  go_ret;exact⟨rfl,ρE⟩
theorem AD (m d:Int)(w:ϖ)(pm:0<m)(pd:0<d)(y0:Md<m):
  CB 173 #[φ (aJ m d 0)] w Kz:=by
 refine η1 ?_;intro nm nd;refine δo ?_;intro Qq aX;unfold CB;go_in;go_wp2
 all_goals
  go_ret;exact⟨rfl,ρE⟩
theorem AC (m d n:Int)(w:ϖ)(pm:0<m)(pd:0<d)(pn:0<n)(y0:Md<m):
  CB 173 #[φ (aJ m d n)] w Kz:=by
 refine η1 ?_;intro nm nd;have nn:(n==0)=false:=ZN.2 ρa;refine δo ?_;intro Qq aX;unfold CB;go_in;go_wp2
 all_goals
  go_ret;exact⟨rfl,ρE⟩
theorem AJ (n:Int)(w:ϖ)(pn:0<n)(y0:Md<n):
  CB 173 #[φ (aJ 0 0 n)] w Kz:=by
 refine δz ?_;intro nn Qq aX;unfold CB;go_in;go_wp2
 all_goals
  go_ret;exact⟨rfl,ρE⟩
theorem AI (d n:Int)(w:ϖ)(pd:0<d)(pn:0<n)(y0:Md<n):
  CB 173 #[φ (aJ 0 d n)] w Kz:=by
 have nd:(d==0)=false:=ZN.2 ρa;refine δz ?_;intro nn Qq aX;unfold CB;go_in;go_wp2
 all_goals
  go_ret;exact⟨rfl,ρE⟩
theorem AH (m n:Int)(w:ϖ)(pm:0<m)(pn:0<n)(y0:m<=Md)(y1:Md<n):
  CB 173 #[φ (aJ m 0 n)] w Kz:=by
 have nm:(m==0)=false:=ZN.2 ρa;refine δs ?_;intro nn aX WQ bV;unfold CB;go_in;go_wp2
 all_goals
  go_ret;exact⟨rfl,ρE⟩
theorem AG (m d n:Int)(w:ϖ)(pm:0<m)(pd:0<d)(pn:0<n)(y0:m<=Md)(y1:Md<n):
  CB 173 #[φ (aJ m d n)] w Kz:=by
 refine η1 ?_;intro nm nd;refine δs ?_;intro nn aX WQ bV;unfold CB;go_in;go_wp2
 all_goals
  go_ret;exact⟨rfl,ρE⟩
theorem AO (d:Int)(w:ϖ)(pd:0<d)(y0:1048576<d):
  CB 173 #[φ (aJ 0 d 0)] w Kz:=by
 have nd:(d==0)=false:=ZN.2 ρa;have Qq:decide (1048576<d)=true:=ZT y0;have aX:=df (d<1048576);unfold CB;go_in;go_wp2
 all_goals
  go_ret;exact⟨rfl,ρE⟩
theorem AN (d n:Int)(w:ϖ)(pd:0<d)(pn:0<n)(y0:n<=Md)(y1:1048576<d):
  CB 173 #[φ (aJ 0 d n)] w Kz:=by
 refine δE ?_;intro nd nn aX;have WQ:decide (1048576<d)=true:=ZT y1;have bV:=df (d<1048576);unfold CB;go_in;go_wp2
 all_goals
  go_ret;exact⟨rfl,ρE⟩
theorem AM (m d:Int)(w:ϖ)(pm:0<m)(pd:0<d)(y0:m<=Md)(y1:1048576<d):
  CB 173 #[φ (aJ m d 0)] w Kz:=by
 refine η1 ?_;intro nm nd;have aX:=df (Md<m);have WQ:decide (1048576<d)=true:=ZT y1;have bV:=df (d<1048576);unfold CB;go_in;go_wp2
 all_goals
  go_ret;exact⟨rfl,ρE⟩
theorem AK (m d n:Int)(w:ϖ)(pm:0<m)(pd:0<d)(pn:0<n)(y0:m<=Md)(y1:n<=Md)(y2:1048576<d):
  CB 173 #[φ (aJ m d n)] w Kz:=by
 refine η1 ?_;intro nm nd;refine δd ?_;intro nn aX bV;have dt2:decide (1048576<d)=true:=ZT y2;have ij:=df (d<1048576);unfold CB;go_in;go_wp2
 all_goals
  go_ret;exact⟨rfl,ρE⟩
theorem GZ (m:Int)(w:ϖ)(pm:0<m)(y0:m<=Md):
  CB 173 #[φ (aJ m 0 m)] w (ι ε 2):=by
 have nm:(m==0)=false:=ZN.2 ρa;have aX:=df (Md<m);unfold CB;go_in;go_wp2
 all_goals
  go_ret;exact⟨rfl,ρE⟩
theorem Fj (n:Int)(w:ϖ)(pn:0<n)(y0:n<=Md):
  CB 173 #[φ (aJ 0 0 n)] w Kz:=by
 have nn:(n==0)=false:=ZN.2 ρa;have aX:=df (Md<n);have nn0:((0:Int)==n)=false:=ZN.2 ρa;unfold CB;go_in;go_wp2
 all_goals
  go_ret;exact⟨rfl,ρE⟩
theorem Fk (m:Int)(w:ϖ)(pm:0<m)(y0:m<=Md):
  CB 173 #[φ (aJ m 0 0)] w Kz:=by
 have nm:(m==0)=false:=ZN.2 ρa;have aX:=df (Md<m);unfold CB;go_in;go_wp2
 all_goals
  go_ret;exact⟨rfl,ρE⟩
theorem Fl (m n:Int)(w:ϖ)(pm:0<m)(pn:0<n)(y0:m<=Md)(y1:n<=Md)(y2:m<n):
  CB 173 #[φ (aJ m 0 n)] w Kz:=by
 have nm:(m==0)=false:=ZN.2 ρa;refine δd ?_;intro nn aX bV;have dt2:decide (m<n)=true:=ZT y2;have ij:=df (n<m);have ne2:(m==n)=false:=ZN.2 ρa;have nf2:(m==n)=false:=ZN.2 ρa;unfold CB;go_in;go_wp2
 all_goals
  go_ret;exact⟨rfl,ρE⟩
theorem Fm (m n:Int)(w:ϖ)(pm:0<m)(pn:0<n)(y0:m<=Md)(y1:n<=Md)(y2:n<m):
  CB 173 #[φ (aJ m 0 n)] w Kz:=by
 have nm:(m==0)=false:=ZN.2 ρa;refine δd ?_;intro nn aX bV;have dt2:decide (n<m)=true:=ZT y2;have ij:=df (m<n);have ne2:(n==m)=false:=ZN.2 ρa;have nf2:(m==n)=false:=ZN.2 ρa;unfold CB;go_in;go_wp2
 all_goals
  go_ret;exact⟨rfl,ρE⟩
theorem Fo (m d:Int)(w:ϖ)(pm:0<m)(pd:0<d)(y0:m<=Md)(y1:d<=1048576):
  CB 173 #[φ (aJ m d 0)] w (ι ε 3):=by
 refine η1 ?_;intro nm nd;have aX:=df (Md<m);have bV:=df (1048576<d);unfold CB;go_in;go_wp2
 all_goals
  go_ret;exact⟨rfl,ρE⟩
theorem Fp (m d n:Int)(w:ϖ)(pm:0<m)(pd:0<d)(pn:0<n)(y0:m<=Md)(y1:n<=Md)(y2:d<=1048576)(y3:n<m):
  CB 173 #[φ (aJ m d n)] w (ι ε 3):=by
 refine η1 ?_;intro nm nd;refine δd ?_;intro nn aX bV;have ij:=df (1048576<d);have dt3:decide (n<m)=true:=ZT y3;have jg:=df (m<n);have ne3:(n==m)=false:=ZN.2 ρa;have nf3:(m==n)=false:=ZN.2 ρa;unfold CB;go_in;go_wp2
 all_goals
  go_ret;exact⟨rfl,ρE⟩
theorem Hd (d n:Int)(w:ϖ)(pd:0<d)(pn:0<n)(y0:n<=Md)(y1:d<=1048576):
  CB 173 #[φ (aJ 0 d n)] w (ι ε 4):=by
 refine δE ?_;intro nd nn aX;have bV:=df (1048576<d);unfold CB;go_in;go_wp2
 all_goals
  go_ret;exact⟨rfl,ρE⟩
theorem He (m d n:Int)(w:ϖ)(pm:0<m)(pd:0<d)(pn:0<n)(y0:m<=Md)(y1:n<=Md)(y2:d<=1048576)(y3:m<=n):
  CB 173 #[φ (aJ m d n)] w Kz:=by
 refine η1 ?_;intro nm nd;refine δd ?_;intro nn aX bV;have ij:=df (1048576<d);have jg:=df (n<m);unfold CB;go_in;go_wp2
 all_goals
  go_ret;exact⟨rfl,ρE⟩
theorem Hj (d:Int)(w:ϖ)(pd:0<d)(y0:d<=1048576):
  CB 173 #[φ (aJ 0 d 0)] w Kz:=by
 have nd:(d==0)=false:=ZN.2 ρa;have aX:=df (1048576<d);unfold CB;go_in;go_wp2
 all_goals
  go_ret;exact⟨rfl,ρE⟩
theorem bQ (m d n c:Int)(w:ϖ)(hm:0<=m)(hd:0<=d)(hn:0<=n)(h:kd m d n=c):
  CB 173 #[φ (aJ m d n)] w (ι ε c):=by
 subst h;rcases Int.lt_or_eq_of_le hm with sm|sm<;>rcases Int.lt_or_eq_of_le hd with sd|sd<;>rcases Int.lt_or_eq_of_le hn with sn|sn<;>(try subst sm)<;>(try subst sd)<;>(try subst sn)
 ·-- ppp
  by_cases q:Md<m
  ·rw[show kd m d n=0 by unfold kd;(repeat' split)<;>omega];exact AC m d n w sm sd sn ρa
  by_cases q:Md<n
  ·rw[show kd m d n=0 by unfold kd;(repeat' split)<;>omega];exact AG m d n w sm sd sn ρa ρa
  by_cases q:1048576<d
  ·rw[show kd m d n=0 by unfold kd;(repeat' split)<;>omega];exact AK m d n w sm sd sn ρa ρa ρa
  by_cases q:n<m
  ·rw[show kd m d n=3 by unfold kd;(repeat' split)<;>omega];exact Fp m d n w sm sd sn ρa ρa ρa ρa
  rw[show kd m d n=0 by unfold kd;(repeat' split)<;>omega];exact He m d n w sm sd sn ρa ρa ρa ρa
 ·-- ppz
  by_cases q:Md<m
  ·rw[show kd m d 0=0 by unfold kd;(repeat' split)<;>omega];exact AD m d w sm sd ρa
  by_cases q:1048576<d
  ·rw[show kd m d 0=0 by unfold kd;(repeat' split)<;>omega];exact AM m d w sm sd ρa ρa
  rw[show kd m d 0=3 by unfold kd;(repeat' split)<;>omega];exact Fo m d w sm sd ρa ρa
 ·-- pzp
  by_cases q:Md<m
  ·rw[show kd m 0 n=0 by unfold kd;(repeat' split)<;>omega];exact AE m n w sm sn ρa
  by_cases q:Md<n
  ·rw[show kd m 0 n=0 by unfold kd;(repeat' split)<;>omega];exact AH m n w sm sn ρa ρa
  by_cases q:m=n
  ·subst q;rw[show kd m 0 m=2 by unfold kd;(repeat' split)<;>omega];exact GZ m w sm ρa
  by_cases q:m<n
  ·rw[show kd m 0 n=0 by unfold kd;(repeat' split)<;>omega];exact Fl m n w sm sn ρa ρa ρa
  rw[show kd m 0 n=0 by unfold kd;(repeat' split)<;>omega];exact Fm m n w sm sn ρa ρa ρa
 ·-- pzz
  by_cases q:Md<m
  ·rw[show kd m 0 0=0 by unfold kd;(repeat' split)<;>omega];exact AF m w sm ρa
  rw[show kd m 0 0=0 by unfold kd;(repeat' split)<;>omega];exact Fk m w sm ρa
 ·-- zpp
  by_cases q:Md<n
  ·rw[show kd 0 d n=0 by unfold kd;(repeat' split)<;>omega];exact AI d n w sd sn ρa
  by_cases q:1048576<d
  ·rw[show kd 0 d n=0 by unfold kd;(repeat' split)<;>omega];exact AN d n w sd sn ρa ρa
  rw[show kd 0 d n=4 by unfold kd;(repeat' split)<;>omega];exact Hd d n w sd sn ρa ρa
 ·-- zpz
  by_cases q:1048576<d
  ·rw[show kd 0 d 0=0 by unfold kd;(repeat' split)<;>omega];exact AO d w sd ρa
  rw[show kd 0 d 0=0 by unfold kd;(repeat' split)<;>omega];exact Hj d w sd ρa
 ·-- zzp
  by_cases q:Md<n
  ·rw[show kd 0 0 n=0 by unfold kd;(repeat' split)<;>omega];exact AJ n w sn ρa
  rw[show kd 0 0 n=0 by unfold kd;(repeat' split)<;>omega];exact Fj n w sn ρa
 ·-- zzz
  rw[show kd 0 0 0=1 by unfold kd;(repeat' split)<;>omega];exact GY  w
theorem Iq (w:ϖ):
  CB 10 #[φ (aJ 0 0 0)] w Ko:=by
 unfold CB;go_in;go_wp2
 all_goals
  go_ret;exact⟨rfl,ρE⟩
theorem Bw (m:Int)(w:ϖ)(pm:0<m)(y0:Md<m):
  CB 10 #[φ (aJ m 0 0)] w Kz:=by
 have nm:(m==0)=false:=ZN.2 ρa;refine δo ?_;intro Qq aX;unfold CB;go_in;go_wp2
 all_goals
  go_ret;exact⟨rfl,ρE⟩
theorem Bu (m n:Int)(w:ϖ)(pm:0<m)(pn:0<n)(y0:Md<m):
  CB 10 #[φ (aJ m 0 n)] w Kz:=by
 have nm:(m==0)=false:=ZN.2 ρa;have nn:(n==0)=false:=ZN.2 ρa;refine δo ?_;intro Qq aX;unfold CB;go_in;go_wp2
 all_goals
  go_ret;exact⟨rfl,ρE⟩
theorem Bt (m d:Int)(w:ϖ)(pm:0<m)(pd:0<d)(y0:Md<m):
  CB 10 #[φ (aJ m d 0)] w Kz:=by
 refine η1 ?_;intro nm nd;refine δo ?_;intro Qq aX;unfold CB;go_in;go_wp2
 all_goals
  go_ret;exact⟨rfl,ρE⟩
theorem Bs (m d n:Int)(w:ϖ)(pm:0<m)(pd:0<d)(pn:0<n)(y0:Md<m):
  CB 10 #[φ (aJ m d n)] w Kz:=by
 refine η1 ?_;intro nm nd;have nn:(n==0)=false:=ZN.2 ρa;refine δo ?_;intro Qq aX;unfold CB;go_in;go_wp2
 all_goals
  go_ret;exact⟨rfl,ρE⟩
theorem BA (n:Int)(w:ϖ)(pn:0<n)(y0:Md<n):
  CB 10 #[φ (aJ 0 0 n)] w Kz:=by
 refine δz ?_;intro nn Qq aX;unfold CB;go_in;go_wp2
 all_goals
  go_ret;exact⟨rfl,ρE⟩
theorem Bz (d n:Int)(w:ϖ)(pd:0<d)(pn:0<n)(y0:Md<n):
  CB 10 #[φ (aJ 0 d n)] w Kz:=by
 have nd:(d==0)=false:=ZN.2 ρa;refine δz ?_;intro nn Qq aX;unfold CB;go_in;go_wp2
 all_goals
  go_ret;exact⟨rfl,ρE⟩
theorem By (m n:Int)(w:ϖ)(pm:0<m)(pn:0<n)(y0:m<=Md)(y1:Md<n):
  CB 10 #[φ (aJ m 0 n)] w Kz:=by
 have nm:(m==0)=false:=ZN.2 ρa;refine δs ?_;intro nn aX WQ bV;unfold CB;go_in;go_wp2
 all_goals
  go_ret;exact⟨rfl,ρE⟩
theorem Bx (m d n:Int)(w:ϖ)(pm:0<m)(pd:0<d)(pn:0<n)(y0:m<=Md)(y1:Md<n):
  CB 10 #[φ (aJ m d n)] w Kz:=by
 refine η1 ?_;intro nm nd;refine δs ?_;intro nn aX WQ bV;unfold CB;go_in;go_wp2
 all_goals
  go_ret;exact⟨rfl,ρE⟩
theorem BE (d:Int)(w:ϖ)(pd:0<d)(y0:1048576<d):
  CB 10 #[φ (aJ 0 d 0)] w Kz:=by
 have nd:(d==0)=false:=ZN.2 ρa;have Qq:decide (1048576<d)=true:=ZT y0;have aX:=df (d<1048576);unfold CB;go_in;go_wp2
 all_goals
  go_ret;exact⟨rfl,ρE⟩
theorem BD (d n:Int)(w:ϖ)(pd:0<d)(pn:0<n)(y0:n<=Md)(y1:1048576<d):
  CB 10 #[φ (aJ 0 d n)] w Kz:=by
 refine δE ?_;intro nd nn aX;have WQ:decide (1048576<d)=true:=ZT y1;have bV:=df (d<1048576);unfold CB;go_in;go_wp2
 all_goals
  go_ret;exact⟨rfl,ρE⟩
theorem BC (m d:Int)(w:ϖ)(pm:0<m)(pd:0<d)(y0:m<=Md)(y1:1048576<d):
  CB 10 #[φ (aJ m d 0)] w Kz:=by
 refine η1 ?_;intro nm nd;have aX:=df (Md<m);have WQ:decide (1048576<d)=true:=ZT y1;have bV:=df (d<1048576);unfold CB;go_in;go_wp2
 all_goals
  go_ret;exact⟨rfl,ρE⟩
theorem BB (m d n:Int)(w:ϖ)(pm:0<m)(pd:0<d)(pn:0<n)(y0:m<=Md)(y1:n<=Md)(y2:1048576<d):
  CB 10 #[φ (aJ m d n)] w Kz:=by
 refine η1 ?_;intro nm nd;refine δd ?_;intro nn aX bV;have dt2:decide (1048576<d)=true:=ZT y2;have ij:=df (d<1048576);unfold CB;go_in;go_wp2
 all_goals
  go_ret;exact⟨rfl,ρE⟩
theorem Ir (m:Int)(w:ϖ)(pm:0<m)(y0:m<=Md):
  CB 10 #[φ (aJ m 0 m)] w (ι ε 2):=by
 have nm:(m==0)=false:=ZN.2 ρa;have aX:=df (Md<m);unfold CB;go_in;go_wp2
 all_goals
  go_ret;exact⟨rfl,ρE⟩
theorem FV (n:Int)(w:ϖ)(pn:0<n)(y0:n<=Md):
  CB 10 #[φ (aJ 0 0 n)] w Kz:=by
 have nn:(n==0)=false:=ZN.2 ρa;have aX:=df (Md<n);have nn0:((0:Int)==n)=false:=ZN.2 ρa;unfold CB;go_in;go_wp2
 all_goals
  go_ret;exact⟨rfl,ρE⟩
theorem FX (m:Int)(w:ϖ)(pm:0<m)(y0:m<=Md):
  CB 10 #[φ (aJ m 0 0)] w Kz:=by
 have nm:(m==0)=false:=ZN.2 ρa;have aX:=df (Md<m);unfold CB;go_in;go_wp2
 all_goals
  go_ret;exact⟨rfl,ρE⟩
theorem FY (m n:Int)(w:ϖ)(pm:0<m)(pn:0<n)(y0:m<=Md)(y1:n<=Md)(y2:m<n):
  CB 10 #[φ (aJ m 0 n)] w Kz:=by
 have nm:(m==0)=false:=ZN.2 ρa;refine δd ?_;intro nn aX bV;have dt2:decide (m<n)=true:=ZT y2;have ij:=df (n<m);have ne2:(m==n)=false:=ZN.2 ρa;have nf2:(m==n)=false:=ZN.2 ρa;unfold CB;go_in;go_wp2
 all_goals
  go_ret;exact⟨rfl,ρE⟩
theorem FZ (m n:Int)(w:ϖ)(pm:0<m)(pn:0<n)(y0:m<=Md)(y1:n<=Md)(y2:n<m):
  CB 10 #[φ (aJ m 0 n)] w Kz:=by
 have nm:(m==0)=false:=ZN.2 ρa;refine δd ?_;intro nn aX bV;have dt2:decide (n<m)=true:=ZT y2;have ij:=df (m<n);have ne2:(n==m)=false:=ZN.2 ρa;have nf2:(m==n)=false:=ZN.2 ρa;unfold CB;go_in;go_wp2
 all_goals
  go_ret;exact⟨rfl,ρE⟩
theorem F0 (m d:Int)(w:ϖ)(pm:0<m)(pd:0<d)(y0:m<=Md)(y1:d<=1048576):
  CB 10 #[φ (aJ m d 0)] w (ι ε 3):=by
 refine η1 ?_;intro nm nd;have aX:=df (Md<m);have bV:=df (1048576<d);unfold CB;go_in;go_wp2
 all_goals
  go_ret;exact⟨rfl,ρE⟩
theorem F1 (m d n:Int)(w:ϖ)(pm:0<m)(pd:0<d)(pn:0<n)(y0:m<=Md)(y1:n<=Md)(y2:d<=1048576)(y3:n<m):
  CB 10 #[φ (aJ m d n)] w (ι ε 3):=by
 refine η1 ?_;intro nm nd;refine δd ?_;intro nn aX bV;have ij:=df (1048576<d);have dt3:decide (n<m)=true:=ZT y3;have jg:=df (m<n);have ne3:(n==m)=false:=ZN.2 ρa;have nf3:(m==n)=false:=ZN.2 ρa;unfold CB;go_in;go_wp2
 all_goals
  go_ret;exact⟨rfl,ρE⟩
theorem Is (d n:Int)(w:ϖ)(pd:0<d)(pn:0<n)(y0:n<=Md)(y1:d<=1048576):
  CB 10 #[φ (aJ 0 d n)] w (ι ε 4):=by
 refine δE ?_;intro nd nn aX;have bV:=df (1048576<d);unfold CB;go_in;go_wp2
 all_goals
  go_ret;exact⟨rfl,ρE⟩
theorem It (m d n:Int)(w:ϖ)(pm:0<m)(pd:0<d)(pn:0<n)(y0:m<=Md)(y1:n<=Md)(y2:d<=1048576)(y3:m<=n):
  CB 10 #[φ (aJ m d n)] w Kz:=by
 refine η1 ?_;intro nm nd;refine δd ?_;intro nn aX bV;have ij:=df (1048576<d);have jg:=df (n<m);unfold CB;go_in;go_wp2
 all_goals
  go_ret;exact⟨rfl,ρE⟩
theorem Iu (d:Int)(w:ϖ)(pd:0<d)(y0:d<=1048576):
  CB 10 #[φ (aJ 0 d 0)] w Kz:=by
 have nd:(d==0)=false:=ZN.2 ρa;have aX:=df (1048576<d);unfold CB;go_in;go_wp2
 all_goals
  go_ret;exact⟨rfl,ρE⟩
theorem bM (m d n c:Int)(w:ϖ)(hm:0<=m)(hd:0<=d)(hn:0<=n)(h:kd m d n=c):
  CB 10 #[φ (aJ m d n)] w (ι ε c):=by
 subst h;rcases Int.lt_or_eq_of_le hm with sm|sm<;>rcases Int.lt_or_eq_of_le hd with sd|sd<;>rcases Int.lt_or_eq_of_le hn with sn|sn<;>(try subst sm)<;>(try subst sd)<;>(try subst sn)
 ·-- ppp
  by_cases q:Md<m
  ·rw[show kd m d n=0 by unfold kd;(repeat' split)<;>omega];exact Bs m d n w sm sd sn ρa
  by_cases q:Md<n
  ·rw[show kd m d n=0 by unfold kd;(repeat' split)<;>omega];exact Bx m d n w sm sd sn ρa ρa
  by_cases q:1048576<d
  ·rw[show kd m d n=0 by unfold kd;(repeat' split)<;>omega];exact BB m d n w sm sd sn ρa ρa ρa
  by_cases q:n<m
  ·rw[show kd m d n=3 by unfold kd;(repeat' split)<;>omega];exact F1 m d n w sm sd sn ρa ρa ρa ρa
  rw[show kd m d n=0 by unfold kd;(repeat' split)<;>omega];exact It m d n w sm sd sn ρa ρa ρa ρa
 ·-- ppz
  by_cases q:Md<m
  ·rw[show kd m d 0=0 by unfold kd;(repeat' split)<;>omega];exact Bt m d w sm sd ρa
  by_cases q:1048576<d
  ·rw[show kd m d 0=0 by unfold kd;(repeat' split)<;>omega];exact BC m d w sm sd ρa ρa
  rw[show kd m d 0=3 by unfold kd;(repeat' split)<;>omega];exact F0 m d w sm sd ρa ρa
 ·-- pzp
  by_cases q:Md<m
  ·rw[show kd m 0 n=0 by unfold kd;(repeat' split)<;>omega];exact Bu m n w sm sn ρa
  by_cases q:Md<n
  ·rw[show kd m 0 n=0 by unfold kd;(repeat' split)<;>omega];exact By m n w sm sn ρa ρa
  by_cases q:m=n
  ·subst q;rw[show kd m 0 m=2 by unfold kd;(repeat' split)<;>omega];exact Ir m w sm ρa
  by_cases q:m<n
  ·rw[show kd m 0 n=0 by unfold kd;(repeat' split)<;>omega];exact FY m n w sm sn ρa ρa ρa
  rw[show kd m 0 n=0 by unfold kd;(repeat' split)<;>omega];exact FZ m n w sm sn ρa ρa ρa
 ·-- pzz
  by_cases q:Md<m
  ·rw[show kd m 0 0=0 by unfold kd;(repeat' split)<;>omega];exact Bw m w sm ρa
  rw[show kd m 0 0=0 by unfold kd;(repeat' split)<;>omega];exact FX m w sm ρa
 ·-- zpp
  by_cases q:Md<n
  ·rw[show kd 0 d n=0 by unfold kd;(repeat' split)<;>omega];exact Bz d n w sd sn ρa
  by_cases q:1048576<d
  ·rw[show kd 0 d n=0 by unfold kd;(repeat' split)<;>omega];exact BD d n w sd sn ρa ρa
  rw[show kd 0 d n=4 by unfold kd;(repeat' split)<;>omega];exact Is d n w sd sn ρa ρa
 ·-- zpz
  by_cases q:1048576<d
  ·rw[show kd 0 d 0=0 by unfold kd;(repeat' split)<;>omega];exact BE d w sd ρa
  rw[show kd 0 d 0=0 by unfold kd;(repeat' split)<;>omega];exact Iu d w sd ρa
 ·-- zzp
  by_cases q:Md<n
  ·rw[show kd 0 0 n=0 by unfold kd;(repeat' split)<;>omega];exact BA n w sn ρa
  rw[show kd 0 0 n=0 by unfold kd;(repeat' split)<;>omega];exact FV n w sn ρa
 ·-- zzz
  rw[show kd 0 0 0=1 by unfold kd;(repeat' split)<;>omega];exact Iq  w
abbrev cls (id par:Int)(lf:Bool)(r0 r1 r2 l0 l1 l2 u0 u1 u2 pk by_:Int):ϗ:=φ #[ι ε id,ι ε par,β lf,ι υ r0,ι υ r1,ι υ r2,ι υ l0,ι υ l1,ι υ l2,ι υ u0,ι υ u1,ι υ u2,ι ε pk,ι ε by_]
def de (k:Int):Bool:=decide (1<k)
def qf (n l m:Int):Bool:=decide (l<=n/\n<=m)
theorem oL (m d n:Int)(w:ϖ)(h:0<=m/\0<=d/\0<=n):
  CB 138 #[φ (aJ m d n)] w (β (de (kd m d n))):=by
 rcases hc:de (kd m d n) with _|_
 all_goals
  have hd:decide (1<kd m d n)=_:=hc;clear hc;unfold CB;go_in;go_wp2_with fail;refine(bQ m d n _ _ h.1 h.2.1 h.2.2 rfl).mono ?_;refine δJ ?_;intro w1 g1 J3;go_wp2;go_ret;exact⟨rfl,ρE⟩
theorem bI (m d n:Int)(w:ϖ)(h:0<=m/\0<=d/\0<=n)(b:Bool)(hb:(kd m d n !=0)=b):
  CB 182 #[φ (aJ m d n)] w (β b):=by
 subst hb;unfold CB;go_in;go_wp2_with fail;refine(bQ m d n _ _ h.1 h.2.1 h.2.2 rfl).mono ?_;refine δJ ?_;intro w1 g1 J3;go_wp2;go_ret;exact⟨rfl,ρE⟩
theorem aI (n l m:Int)(w:ϖ):Calls Ψ 229 #[ι ε n,ι ε l,ι ε m] w λe w'=>e=ϰ (β (qf n l m))/\w=w':=by
 by_cases h1:l<=n
 ·by_cases h2:n<=m
  ·rw[show qf n l m=true from ZT ⟨h1,h2⟩];have d1:=ZT h1;exact ξw
  ·rw[show qf n l m=false from ZF λh=>h2 h.2];have d1:=ZT h1;have d2:=ZF h2;exact ξw
 ·rw[show qf n l m=false from ZF λh=>h1 h.1];have d1:=ZF h1;exact ξw
theorem bi (id par:Int)(lf:Bool)(r0 r1 r2 l0 l1 l2 u0 u1 u2 pk by_:Int)(w:ϖ)(h:0<=r0/\0<=r1/\0<=r2):
  CB 118 #[cls id par lf r0 r1 r2 l0 l1 l2 u0 u1 u2 pk by_] w (β (de (kd r0 r1 r2))):=by
 unfold CB;go_in;go_wp2_with fail;refine(oL r0 r1 r2 _ h).mono ?_;refine δJ ?_;intro w1 g1 J3;go_wp2;go_ret;exact⟨rfl,ρE⟩
theorem aN (id par:Int)(lf:Bool)(r0 r1 r2 l0 l1 l2 u0 u1 u2 pk by_:Int)(w:ϖ)(h:0<=l0/\0<=l1/\0<=l2):
  CB 105 #[cls id par lf r0 r1 r2 l0 l1 l2 u0 u1 u2 pk by_] w (β (de (kd l0 l1 l2))):=by
 unfold CB;go_in;go_wp2_with fail;refine(oL l0 l1 l2 _ h).mono ?_;refine δJ ?_;intro w1 g1 J3;go_wp2;go_ret;exact⟨rfl,ρE⟩
theorem aK (id par:Int)(lf:Bool)(r0 r1 r2 l0 l1 l2 u0 u1 u2 pk by_:Int)(w:ϖ)(h:0<=u0/\0<=u1/\0<=u2):
  CB 230 #[cls id par lf r0 r1 r2 l0 l1 l2 u0 u1 u2 pk by_] w (β (de (kd u0 u1 u2))):=by
 unfold CB;go_in;go_wp2_with fail;refine(oL u0 u1 u2 _ h).mono ?_;refine δJ ?_;intro w1 g1 J3;go_wp2;go_ret;exact⟨rfl,ρE⟩
def wr (id par:Int)(lf:Bool)(r l u pk by_:Int):Int:=
 if id<1\/65536<id\/par<0\/65536<par\/id=par then 1
 else if r=0\/l=0\/u=0\/l=4\/u=4 then 21
 else if 1<u/\l=1 then 29
 else if lf=true then (if pk<1\/64<pk\/by_<1\/1048576<by_\/r=1/\l=1 then 29 else 0)
 else if pk≠0\/by_≠0\/r≠1 then 29 else 0
theorem yG (id par:Int)(lf:Bool)(r0 r1 r2 l0 l1 l2 u0 u1 u2 pk by_:Int)(w:ϖ)(h:id<1\/65536<id\/par<0\/65536<par\/id=par):
  CB 175 #[cls id par lf r0 r1 r2 l0 l1 l2 u0 u1 u2 pk by_] w Ko:=by
 by_cases h1:1<=id/\id<=65536
 ·have f1:qf id 1 65536=true:=ZT h1;by_cases h2:0<=par/\par<=65536
  ·have f2:qf par 0 65536=true:=ZT h2;have f3:(par==id)=true:=beq_iff_eq.2 ρa;exact ξM
  ·have f2:qf par 0 65536=false:=ZF h2;exact ξM
 ·have f1:qf id 1 65536=false:=ZF h1;exact ξM
theorem yJ (id par:Int)(lf:Bool)(r0 r1 r2 l0 l1 l2 u0 u1 u2 pk by_:Int)(w:ϖ)(hr:0<=r0/\0<=r1/\0<=r2)(hl:0<=l0/\0<=l1/\0<=l2)(hu:0<=u0/\0<=u1/\0<=u2)(Ou:1<=id/\id<=65536)(Kt:0<=par/\par<=65536)(JX:id≠par)(qr:(kd r0 r1 r2 !=0)=false):
  CB 175 #[cls id par lf r0 r1 r2 l0 l1 l2 u0 u1 u2 pk by_] w (ι ε 21):=by
 refine ηX ?_;intro f1 f2 f3 i0 i1 i2;unfold CB;go_in;go_wp2_with (first|(go_at_call 229;refine(aI _ _ _ _).mono ?_;rintro e w' ⟨rfl,rfl⟩));refine wp_loop_rounds 4 ?_;rw[cU];go_wp2_with fail;refine(bI r0 r1 r2 _ hr false qr).mono ?_;refine δn ?_;intro w1 JL A1;refine ηY ?_;intro g1 J3;clear JL;have Rr:=A1.r;go_wp2;go_ret;exact⟨rfl,ρE⟩
theorem yH (id par:Int)(lf:Bool)(r0 r1 r2 l0 l1 l2 u0 u1 u2 pk by_:Int)(w:ϖ)(hr:0<=r0/\0<=r1/\0<=r2)(hl:0<=l0/\0<=l1/\0<=l2)(hu:0<=u0/\0<=u1/\0<=u2)(Ou:1<=id/\id<=65536)(Kt:0<=par/\par<=65536)(JX:id≠par)(qr:(kd r0 r1 r2 !=0)=true)(ql:(kd l0 l1 l2 !=0)=false):
  CB 175 #[cls id par lf r0 r1 r2 l0 l1 l2 u0 u1 u2 pk by_] w (ι ε 21):=by
 refine ηX ?_;intro f1 f2 f3 i0 i1 i2;unfold CB;go_in;go_wp2_with (first|(go_at_call 229;refine(aI _ _ _ _).mono ?_;rintro e w' ⟨rfl,rfl⟩));refine wp_loop_rounds 4 ?_;rw[cU];go_wp2_with fail;refine δK ?_;intro w1 A1 g1 J3 Rr;go_wp2;rw[cU];go_wp2_with fail;refine(bI l0 l1 l2 _ hl false ql).mono ?_;rintro e w2 ⟨rfl,JR⟩;have A2:=A1.tr JR;have NR:ah w2 w1 (aJ l0 l1 l2) 41:=Zv JR;refine η6 ?_;intro g2 KN;clear JR;replace Rr:=θ2 A2.r NR.r;go_wp2;go_ret;exact⟨rfl,ρE⟩
theorem yI (id par:Int)(lf:Bool)(r0 r1 r2 l0 l1 l2 u0 u1 u2 pk by_:Int)(w:ϖ)(hr:0<=r0/\0<=r1/\0<=r2)(hl:0<=l0/\0<=l1/\0<=l2)(hu:0<=u0/\0<=u1/\0<=u2)(Ou:1<=id/\id<=65536)(Kt:0<=par/\par<=65536)(JX:id≠par)(qr:(kd r0 r1 r2 !=0)=true)(ql:(kd l0 l1 l2 !=0)=true)(sl:(kd l0 l1 l2==4)=true):
  CB 175 #[cls id par lf r0 r1 r2 l0 l1 l2 u0 u1 u2 pk by_] w (ι ε 21):=by
 refine ηX ?_;intro f1 f2 f3 i0 i1 i2;unfold CB;go_in;go_wp2_with (first|(go_at_call 229;refine(aI _ _ _ _).mono ?_;rintro e w' ⟨rfl,rfl⟩));refine wp_loop_rounds 4 ?_;rw[cU];go_wp2_with fail;refine δK ?_;intro w1 A1 g1 J3 Rr;go_wp2;rw[cU];go_wp2_with fail;refine δl ?_;intro w2 JR A2 NR;refine η6 ?_;intro g2 KN;clear JR;replace Rr:=θ2 A2.r NR.r;go_wp2_with fail;refine δe ?_;clear Rr;intro w3 A3 Pr g3 MU Rr;go_wp2;go_ret;exact⟨rfl,ρE⟩
theorem yK (id par:Int)(lf:Bool)(r0 r1 r2 l0 l1 l2 u0 u1 u2 pk by_:Int)(w:ϖ)(hr:0<=r0/\0<=r1/\0<=r2)(hl:0<=l0/\0<=l1/\0<=l2)(hu:0<=u0/\0<=u1/\0<=u2)(Ou:1<=id/\id<=65536)(Kt:0<=par/\par<=65536)(JX:id≠par)(qr:(kd r0 r1 r2 !=0)=true)(ql:(kd l0 l1 l2 !=0)=true)(qu:(kd u0 u1 u2 !=0)=false)(sl:(kd l0 l1 l2==4)=false):
  CB 175 #[cls id par lf r0 r1 r2 l0 l1 l2 u0 u1 u2 pk by_] w (ι ε 21):=by
 refine ηX ?_;intro f1 f2 f3 i0 i1 i2;unfold CB;go_in;go_wp2_with (first|(go_at_call 229;refine(aI _ _ _ _).mono ?_;rintro e w' ⟨rfl,rfl⟩));refine wp_loop_rounds 4 ?_;rw[cU];go_wp2_with fail;refine δK ?_;intro w1 A1 g1 J3 Rr;go_wp2;rw[cU];go_wp2_with fail;refine δl ?_;intro w2 JR A2 NR;refine η6 ?_;intro g2 KN;clear JR;replace Rr:=θ2 A2.r NR.r;go_wp2_with fail;refine δe ?_;clear Rr;intro w3 A3 Pr g3 MU Rr;go_wp2;rw[cU];go_wp2_with fail;refine(bI u0 u1 u2 _ hu false qu).mono ?_;refine δr ?_;clear Rr;intro w4 A4 P9 g4 SI Rr;go_wp2;go_ret;exact⟨rfl,ρE⟩
theorem yL (id par:Int)(lf:Bool)(r0 r1 r2 l0 l1 l2 u0 u1 u2 pk by_:Int)(w:ϖ)(hr:0<=r0/\0<=r1/\0<=r2)(hl:0<=l0/\0<=l1/\0<=l2)(hu:0<=u0/\0<=u1/\0<=u2)(Ou:1<=id/\id<=65536)(Kt:0<=par/\par<=65536)(JX:id≠par)(qr:(kd r0 r1 r2 !=0)=true)(ql:(kd l0 l1 l2 !=0)=true)(qu:(kd u0 u1 u2 !=0)=true)(sl:(kd l0 l1 l2==4)=false)(su:(kd u0 u1 u2==4)=true):
  CB 175 #[cls id par lf r0 r1 r2 l0 l1 l2 u0 u1 u2 pk by_] w (ι ε 21):=by
 refine ηX ?_;intro f1 f2 f3 i0 i1 i2;unfold CB;go_in;go_wp2_with (first|(go_at_call 229;refine(aI _ _ _ _).mono ?_;rintro e w' ⟨rfl,rfl⟩));refine wp_loop_rounds 4 ?_;rw[cU];go_wp2_with fail;refine δK ?_;intro w1 A1 g1 J3 Rr;go_wp2;rw[cU];go_wp2_with fail;refine δl ?_;intro w2 JR A2 NR;refine η6 ?_;intro g2 KN;clear JR;replace Rr:=θ2 A2.r NR.r;go_wp2_with fail;refine δe ?_;clear Rr;intro w3 A3 Pr g3 MU Rr;go_wp2;rw[cU];go_wp2_with fail;refine(bI u0 u1 u2 _ hu true qu).mono ?_;refine δr ?_;clear Rr;intro w4 A4 P9 g4 SI Rr;go_wp2_with fail;refine δA ?_;clear Rr;intro w5 A5 Sm g5 RP Rr;go_wp2;go_ret;exact⟨rfl,ρE⟩
theorem Ai (id par:Int)(lf:Bool)(r0 r1 r2 l0 l1 l2 u0 u1 u2 pk by_:Int)(w:ϖ)(hr:0<=r0/\0<=r1/\0<=r2)(hl:0<=l0/\0<=l1/\0<=l2)(hu:0<=u0/\0<=u1/\0<=u2)(y:id<1):
  CB 95 #[cls id par lf r0 r1 r2 l0 l1 l2 u0 u1 u2 pk by_] w Ko:=by
 have dd:decide (id<1)=true:=ZT y;unfold CB;go_in;go_wp2;go_ret;exact⟨rfl,ρE⟩
theorem Aj (id par:Int)(lf:Bool)(r0 r1 r2 l0 l1 l2 u0 u1 u2 pk by_:Int)(w:ϖ)(hr:0<=r0/\0<=r1/\0<=r2)(hl:0<=l0/\0<=l1/\0<=l2)(hu:0<=u0/\0<=u1/\0<=u2)(n0:¬id<1)(y:65536<id):
  CB 95 #[cls id par lf r0 r1 r2 l0 l1 l2 u0 u1 u2 pk by_] w Ko:=by
 have d0:decide (id<1)=false:=ZF n0;have dd:decide (65536<id)=true:=ZT y;unfold CB;go_in;go_wp2;go_ret;exact⟨rfl,ρE⟩
theorem Ak (id par:Int)(lf:Bool)(r0 r1 r2 l0 l1 l2 u0 u1 u2 pk by_:Int)(w:ϖ)(hr:0<=r0/\0<=r1/\0<=r2)(hl:0<=l0/\0<=l1/\0<=l2)(hu:0<=u0/\0<=u1/\0<=u2)(n0:¬id<1)(n1:¬65536<id)(y:par<0):
  CB 95 #[cls id par lf r0 r1 r2 l0 l1 l2 u0 u1 u2 pk by_] w Ko:=by
 have d0:decide (id<1)=false:=ZF n0;have d1:decide (65536<id)=false:=ZF n1;have dd:decide (par<0)=true:=ZT y;unfold CB;go_in;go_wp2;go_ret;exact⟨rfl,ρE⟩
theorem Al (id par:Int)(lf:Bool)(r0 r1 r2 l0 l1 l2 u0 u1 u2 pk by_:Int)(w:ϖ)(hr:0<=r0/\0<=r1/\0<=r2)(hl:0<=l0/\0<=l1/\0<=l2)(hu:0<=u0/\0<=u1/\0<=u2)(n0:¬id<1)(n1:¬65536<id)(n2:¬par<0)(y:65536<par):
  CB 95 #[cls id par lf r0 r1 r2 l0 l1 l2 u0 u1 u2 pk by_] w Ko:=by
 have d0:decide (id<1)=false:=ZF n0;have d1:decide (65536<id)=false:=ZF n1;have d2:decide (par<0)=false:=ZF n2;have dd:decide (65536<par)=true:=ZT y;unfold CB;go_in;go_wp2;go_ret;exact⟨rfl,ρE⟩
theorem Am (id par:Int)(lf:Bool)(r0 r1 r2 l0 l1 l2 u0 u1 u2 pk by_:Int)(w:ϖ)(hr:0<=r0/\0<=r1/\0<=r2)(hl:0<=l0/\0<=l1/\0<=l2)(hu:0<=u0/\0<=u1/\0<=u2)(n0:¬id<1)(n1:¬65536<id)(n2:¬par<0)(n3:¬65536<par)(y:id=par):
  CB 95 #[cls id par lf r0 r1 r2 l0 l1 l2 u0 u1 u2 pk by_] w Ko:=by
 have d0:decide (id<1)=false:=ZF n0;have d1:decide (65536<id)=false:=ZF n1;have d2:decide (par<0)=false:=ZF n2;have d3:decide (65536<par)=false:=ZF n3;have dd:(id==par)=true:=beq_iff_eq.2 y;clear y;unfold CB;go_in;go_wp2;go_ret;exact⟨rfl,ρE⟩
theorem Co (id par:Int)(lf:Bool)(r0 r1 r2 l0 l1 l2 u0 u1 u2 pk by_:Int)(w:ϖ)(hr:0<=r0/\0<=r1/\0<=r2)(hl:0<=l0/\0<=l1/\0<=l2)(hu:0<=u0/\0<=u1/\0<=u2)(Ou:1<=id/\id<=65536)(Kt:0<=par/\par<=65536)(JX:id≠par):
  CB 95 #[cls id par lf r0 r1 r2 l0 l1 l2 u0 u1 u2 pk by_] w (ι ε (wr id par lf (kd r0 r1 r2) (kd l0 l1 l2) (kd u0 u1 u2) pk by_)):=by
 have d1:=df (id<1);have d2:=df (65536<id);have d3:=df (par<0);have d4:=df (65536<par);have d5:(id==par)=false:=ZN.2 JX;unfold CB;go_in;go_wp2_with fail;refine(bM r0 r1 r2 _ _ hr.1 hr.2.1 hr.2.2 rfl).mono ?_;refine δn ?_;intro w1 JL A1;refine ηY ?_;intro g1 J3;clear JL;have Rr:=A1.r;go_wp2_with fail;refine(bM l0 l1 l2 _ _ hl.1 hl.2.1 hl.2.2 rfl).mono ?_;rintro e w2 ⟨rfl,JR⟩;have A2:=A1.tr JR;refine η6 ?_;intro g2 KN;clear JR;replace Rr:=A2.r;go_wp2_with fail;refine(bM u0 u1 u2 _ _ hu.1 hu.2.1 hu.2.2 rfl).mono ?_;rintro e w3 ⟨rfl,KJ⟩;have A3:=A2.tr KJ;have g3:=Tg w KJ;have MU:=KJ.size;(try simp at MU);clear KJ;replace Rr:=A3.r;clear A1 A2 A3 g1 g2;go_wp2
 all_goals
  go_ret;refine⟨dS ?_,ρE⟩;have kr:=eK r0 r1 r2;have kl:=eK l0 l1 l2;have ku:=eK u0 u1 u2;generalize kd r0 r1 r2=r at*;generalize kd l0 l1 l2=l at*;generalize kd u0 u1 u2=u at*;clear g3;simp only[beq_iff_eq,ZN,ne_eq] at*;cases lf<;>first|contradiction|(unfold wr;simp only[Bool.false_eq_true,if_false,if_true];(repeat' split)<;>first|omega|(exfalso;simp_all;done)|(simp_all;done)|(exfalso;simp_all;omega))
theorem wY (id par:Int)(lf:Bool)(r0 r1 r2 l0 l1 l2 u0 u1 u2 pk by_:Int)(w:ϖ)(hr:0<=r0/\0<=r1/\0<=r2)(hl:0<=l0/\0<=l1/\0<=l2)(hu:0<=u0/\0<=u1/\0<=u2)(c:Int)(h:wr id par lf (kd r0 r1 r2) (kd l0 l1 l2) (kd u0 u1 u2) pk by_=c):
  CB 95 #[cls id par lf r0 r1 r2 l0 l1 l2 u0 u1 u2 pk by_] w (ι ε c):=by
 subst h;by_cases h:id<1\/65536<id\/par<0\/65536<par\/id=par
 ·rw[show wr id par lf (kd r0 r1 r2) (kd l0 l1 l2) (kd u0 u1 u2) pk by_=1 by unfold wr;rw[ZP h]];by_cases n0:id<1
  ·exact Ai id par lf r0 r1 r2 l0 l1 l2 u0 u1 u2 pk by_ w hr hl hu n0
  by_cases n1:65536<id
  ·exact Aj id par lf r0 r1 r2 l0 l1 l2 u0 u1 u2 pk by_ w hr hl hu n0 n1
  by_cases n2:par<0
  ·exact Ak id par lf r0 r1 r2 l0 l1 l2 u0 u1 u2 pk by_ w hr hl hu n0 n1 n2
  by_cases n3:65536<par
  ·exact Al id par lf r0 r1 r2 l0 l1 l2 u0 u1 u2 pk by_ w hr hl hu n0 n1 n2 n3
  exact Am id par lf r0 r1 r2 l0 l1 l2 u0 u1 u2 pk by_ w hr hl hu n0 n1 n2 n3 ρa
 ·exact Co id par lf r0 r1 r2 l0 l1 l2 u0 u1 u2 pk by_ w hr hl hu ρa ρa ρa
end Go.Proofs.YtfdlemkplejdnaaGreat
