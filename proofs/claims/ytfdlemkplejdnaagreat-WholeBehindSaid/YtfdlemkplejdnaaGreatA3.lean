/- WholeBehind, part 3. Conditions: none. -/
import Derived.Test.YtfdlemkplejdnaaGreatA2
import Derived.Laws.StructEq
namespace Go.Proofs.YtfdlemkplejdnaaGreat
open Go.RowKit Go.Sort
open Value renaming int->ι,pointer->ψ,slice->ζ,tuple->χ,agg->φ,map->μ,bool->β
open IntKind renaming u64->υ,i64->ε,u16->ω
open Ending renaming returned->ϰ
open Go.Proofs.Tryz renaming prog->Ψ,underlying3->Θ,underlying147->Δ,underlying152->Γ,underlying202->Φ,underlying39->Ξ,underlying207->Ω
open Go renaming World->ϖ,Value->ϗ
set_option linter.unusedVariables false
set_option linter.unusedSimpArgs false
set_option maxHeartbeats 8000000
set_option maxRecDepth 100000
def kd (m d n:Int):Int:=
 if m=0/\d=0/\n=0 then 1 else if Md<m\/Md<n\/1048576<d then 0 else if d=0/\m=n then 2 else if 0<d/\n<m then 3 else if 0<d/\m=0/\0<n then 4 else 0
theorem fV (m d n:Int):0<=kd m d n/\kd m d n<=4:=by unfold kd;(repeat' split)<;>omega
theorem FX (w:ϖ):
  CB 173 #[φ (aP 0 0 0)] w Ko:=by
 unfold CB;go_in;go_wp2
 all_goals
  go_ret;exact⟨rfl,ρE⟩
theorem yZ (m:Int)(w:ϖ)(pm:0<m)(y0:Md<m):
  CB 173 #[φ (aP m 0 0)] w Kz:=by
 have nm:(m==0)=false:=ZN.2 ρa;refine δr ?_;intro PA aV;unfold CB;go_in;go_wp2
 all_goals
  go_ret;exact⟨rfl,ρE⟩
theorem yY (m n:Int)(w:ϖ)(pm:0<m)(pn:0<n)(y0:Md<m):
  CB 173 #[φ (aP m 0 n)] w Kz:=by
 have nm:(m==0)=false:=ZN.2 ρa;have nn:(n==0)=false:=ZN.2 ρa;refine δr ?_;intro PA aV;unfold CB;go_in;go_wp2
 all_goals
  go_ret;exact⟨rfl,ρE⟩
theorem yX (m d:Int)(w:ϖ)(pm:0<m)(pd:0<d)(y0:Md<m):
  CB 173 #[φ (aP m d 0)] w Kz:=by
 refine η5 ?_;intro nm nd;refine δr ?_;intro PA aV;unfold CB;go_in;go_wp2
 all_goals
  go_ret;exact⟨rfl,ρE⟩
theorem yW (m d n:Int)(w:ϖ)(pm:0<m)(pd:0<d)(pn:0<n)(y0:Md<m):
  CB 173 #[φ (aP m d n)] w Kz:=by
 refine η5 ?_;intro nm nd;have nn:(n==0)=false:=ZN.2 ρa;refine δr ?_;intro PA aV;unfold CB;go_in;go_wp2
 all_goals
  go_ret;exact⟨rfl,ρE⟩
theorem zf (n:Int)(w:ϖ)(pn:0<n)(y0:Md<n):
  CB 173 #[φ (aP 0 0 n)] w Kz:=by
 refine δC ?_;intro nn PA aV;unfold CB;go_in;go_wp2
 all_goals
  go_ret;exact⟨rfl,ρE⟩
theorem ze (d n:Int)(w:ϖ)(pd:0<d)(pn:0<n)(y0:Md<n):
  CB 173 #[φ (aP 0 d n)] w Kz:=by
 have nd:(d==0)=false:=ZN.2 ρa;refine δC ?_;intro nn PA aV;unfold CB;go_in;go_wp2
 all_goals
  go_ret;exact⟨rfl,ρE⟩
theorem zd (m n:Int)(w:ϖ)(pm:0<m)(pn:0<n)(y0:m<=Md)(y1:Md<n):
  CB 173 #[φ (aP m 0 n)] w Kz:=by
 have nm:(m==0)=false:=ZN.2 ρa;refine δv ?_;intro nn aV VX bX;unfold CB;go_in;go_wp2
 all_goals
  go_ret;exact⟨rfl,ρE⟩
theorem zc (m d n:Int)(w:ϖ)(pm:0<m)(pd:0<d)(pn:0<n)(y0:m<=Md)(y1:Md<n):
  CB 173 #[φ (aP m d n)] w Kz:=by
 refine η5 ?_;intro nm nd;refine δv ?_;intro nn aV VX bX;unfold CB;go_in;go_wp2
 all_goals
  go_ret;exact⟨rfl,ρE⟩
theorem zD (d:Int)(w:ϖ)(pd:0<d)(y0:1048576<d):
  CB 173 #[φ (aP 0 d 0)] w Kz:=by
 have nd:(d==0)=false:=ZN.2 ρa;have PA:decide (1048576<d)=true:=ZT y0;have aV:=df (d<1048576);unfold CB;go_in;go_wp2
 all_goals
  go_ret;exact⟨rfl,ρE⟩
theorem zq (d n:Int)(w:ϖ)(pd:0<d)(pn:0<n)(y0:n<=Md)(y1:1048576<d):
  CB 173 #[φ (aP 0 d n)] w Kz:=by
 refine δI ?_;intro nd nn aV;have VX:decide (1048576<d)=true:=ZT y1;have bX:=df (d<1048576);unfold CB;go_in;go_wp2
 all_goals
  go_ret;exact⟨rfl,ρE⟩
theorem zm (m d:Int)(w:ϖ)(pm:0<m)(pd:0<d)(y0:m<=Md)(y1:1048576<d):
  CB 173 #[φ (aP m d 0)] w Kz:=by
 refine η5 ?_;intro nm nd;have aV:=df (Md<m);have VX:decide (1048576<d)=true:=ZT y1;have bX:=df (d<1048576);unfold CB;go_in;go_wp2
 all_goals
  go_ret;exact⟨rfl,ρE⟩
theorem zl (m d n:Int)(w:ϖ)(pm:0<m)(pd:0<d)(pn:0<n)(y0:m<=Md)(y1:n<=Md)(y2:1048576<d):
  CB 173 #[φ (aP m d n)] w Kz:=by
 refine η5 ?_;intro nm nd;refine δg ?_;intro nn aV bX;have dt2:decide (1048576<d)=true:=ZT y2;have gV:=df (d<1048576);unfold CB;go_in;go_wp2
 all_goals
  go_ret;exact⟨rfl,ρE⟩
theorem FY (m:Int)(w:ϖ)(pm:0<m)(y0:m<=Md):
  CB 173 #[φ (aP m 0 m)] w (ι ε 2):=by
 have nm:(m==0)=false:=ZN.2 ρa;have aV:=df (Md<m);unfold CB;go_in;go_wp2
 all_goals
  go_ret;exact⟨rfl,ρE⟩
theorem DU (n:Int)(w:ϖ)(pn:0<n)(y0:n<=Md):
  CB 173 #[φ (aP 0 0 n)] w Kz:=by
 have nn:(n==0)=false:=ZN.2 ρa;have aV:=df (Md<n);have nn0:((0:Int)==n)=false:=ZN.2 ρa;unfold CB;go_in;go_wp2
 all_goals
  go_ret;exact⟨rfl,ρE⟩
theorem DV (m:Int)(w:ϖ)(pm:0<m)(y0:m<=Md):
  CB 173 #[φ (aP m 0 0)] w Kz:=by
 have nm:(m==0)=false:=ZN.2 ρa;have aV:=df (Md<m);unfold CB;go_in;go_wp2
 all_goals
  go_ret;exact⟨rfl,ρE⟩
theorem DW (m n:Int)(w:ϖ)(pm:0<m)(pn:0<n)(y0:m<=Md)(y1:n<=Md)(y2:m<n):
  CB 173 #[φ (aP m 0 n)] w Kz:=by
 have nm:(m==0)=false:=ZN.2 ρa;refine δg ?_;intro nn aV bX;have dt2:decide (m<n)=true:=ZT y2;have gV:=df (n<m);have ne2:(m==n)=false:=ZN.2 ρa;have nf2:(m==n)=false:=ZN.2 ρa;unfold CB;go_in;go_wp2
 all_goals
  go_ret;exact⟨rfl,ρE⟩
theorem DX (m n:Int)(w:ϖ)(pm:0<m)(pn:0<n)(y0:m<=Md)(y1:n<=Md)(y2:n<m):
  CB 173 #[φ (aP m 0 n)] w Kz:=by
 have nm:(m==0)=false:=ZN.2 ρa;refine δg ?_;intro nn aV bX;have dt2:decide (n<m)=true:=ZT y2;have gV:=df (m<n);have ne2:(n==m)=false:=ZN.2 ρa;have nf2:(m==n)=false:=ZN.2 ρa;unfold CB;go_in;go_wp2
 all_goals
  go_ret;exact⟨rfl,ρE⟩
theorem DY (m d:Int)(w:ϖ)(pm:0<m)(pd:0<d)(y0:m<=Md)(y1:d<=1048576):
  CB 173 #[φ (aP m d 0)] w (ι ε 3):=by
 refine η5 ?_;intro nm nd;have aV:=df (Md<m);have bX:=df (1048576<d);unfold CB;go_in;go_wp2
 all_goals
  go_ret;exact⟨rfl,ρE⟩
theorem DZ (m d n:Int)(w:ϖ)(pm:0<m)(pd:0<d)(pn:0<n)(y0:m<=Md)(y1:n<=Md)(y2:d<=1048576)(y3:n<m):
  CB 173 #[φ (aP m d n)] w (ι ε 3):=by
 refine η5 ?_;intro nm nd;refine δg ?_;intro nn aV bX;have gV:=df (1048576<d);have dt3:decide (n<m)=true:=ZT y3;have iY:=df (m<n);have ne3:(n==m)=false:=ZN.2 ρa;have nf3:(m==n)=false:=ZN.2 ρa;unfold CB;go_in;go_wp2
 all_goals
  go_ret;exact⟨rfl,ρE⟩
theorem FZ (d n:Int)(w:ϖ)(pd:0<d)(pn:0<n)(y0:n<=Md)(y1:d<=1048576):
  CB 173 #[φ (aP 0 d n)] w (ι ε 4):=by
 refine δI ?_;intro nd nn aV;have bX:=df (1048576<d);unfold CB;go_in;go_wp2
 all_goals
  go_ret;exact⟨rfl,ρE⟩
theorem F0 (m d n:Int)(w:ϖ)(pm:0<m)(pd:0<d)(pn:0<n)(y0:m<=Md)(y1:n<=Md)(y2:d<=1048576)(y3:m<=n):
  CB 173 #[φ (aP m d n)] w Kz:=by
 refine η5 ?_;intro nm nd;refine δg ?_;intro nn aV bX;have gV:=df (1048576<d);have iY:=df (n<m);unfold CB;go_in;go_wp2
 all_goals
  go_ret;exact⟨rfl,ρE⟩
theorem F1 (d:Int)(w:ϖ)(pd:0<d)(y0:d<=1048576):
  CB 173 #[φ (aP 0 d 0)] w Kz:=by
 have nd:(d==0)=false:=ZN.2 ρa;have aV:=df (1048576<d);unfold CB;go_in;go_wp2
 all_goals
  go_ret;exact⟨rfl,ρE⟩
theorem bU (m d n c:Int)(w:ϖ)(hm:0<=m)(hd:0<=d)(hn:0<=n)(h:kd m d n=c):
  CB 173 #[φ (aP m d n)] w (ι ε c):=by
 subst h;rcases Int.lt_or_eq_of_le hm with sm|sm<;>rcases Int.lt_or_eq_of_le hd with sd|sd<;>rcases Int.lt_or_eq_of_le hn with sn|sn<;>(try subst sm)<;>(try subst sd)<;>(try subst sn)
 ·-- ppp
  by_cases q:Md<m
  ·rw[show kd m d n=0 by unfold kd;(repeat' split)<;>omega];exact yW m d n w sm sd sn ρa
  by_cases q:Md<n
  ·rw[show kd m d n=0 by unfold kd;(repeat' split)<;>omega];exact zc m d n w sm sd sn ρa ρa
  by_cases q:1048576<d
  ·rw[show kd m d n=0 by unfold kd;(repeat' split)<;>omega];exact zl m d n w sm sd sn ρa ρa ρa
  by_cases q:n<m
  ·rw[show kd m d n=3 by unfold kd;(repeat' split)<;>omega];exact DZ m d n w sm sd sn ρa ρa ρa ρa
  rw[show kd m d n=0 by unfold kd;(repeat' split)<;>omega];exact F0 m d n w sm sd sn ρa ρa ρa ρa
 ·-- ppz
  by_cases q:Md<m
  ·rw[show kd m d 0=0 by unfold kd;(repeat' split)<;>omega];exact yX m d w sm sd ρa
  by_cases q:1048576<d
  ·rw[show kd m d 0=0 by unfold kd;(repeat' split)<;>omega];exact zm m d w sm sd ρa ρa
  rw[show kd m d 0=3 by unfold kd;(repeat' split)<;>omega];exact DY m d w sm sd ρa ρa
 ·-- pzp
  by_cases q:Md<m
  ·rw[show kd m 0 n=0 by unfold kd;(repeat' split)<;>omega];exact yY m n w sm sn ρa
  by_cases q:Md<n
  ·rw[show kd m 0 n=0 by unfold kd;(repeat' split)<;>omega];exact zd m n w sm sn ρa ρa
  by_cases q:m=n
  ·subst q;rw[show kd m 0 m=2 by unfold kd;(repeat' split)<;>omega];exact FY m w sm ρa
  by_cases q:m<n
  ·rw[show kd m 0 n=0 by unfold kd;(repeat' split)<;>omega];exact DW m n w sm sn ρa ρa ρa
  rw[show kd m 0 n=0 by unfold kd;(repeat' split)<;>omega];exact DX m n w sm sn ρa ρa ρa
 ·-- pzz
  by_cases q:Md<m
  ·rw[show kd m 0 0=0 by unfold kd;(repeat' split)<;>omega];exact yZ m w sm ρa
  rw[show kd m 0 0=0 by unfold kd;(repeat' split)<;>omega];exact DV m w sm ρa
 ·-- zpp
  by_cases q:Md<n
  ·rw[show kd 0 d n=0 by unfold kd;(repeat' split)<;>omega];exact ze d n w sd sn ρa
  by_cases q:1048576<d
  ·rw[show kd 0 d n=0 by unfold kd;(repeat' split)<;>omega];exact zq d n w sd sn ρa ρa
  rw[show kd 0 d n=4 by unfold kd;(repeat' split)<;>omega];exact FZ d n w sd sn ρa ρa
 ·-- zpz
  by_cases q:1048576<d
  ·rw[show kd 0 d 0=0 by unfold kd;(repeat' split)<;>omega];exact zD d w sd ρa
  rw[show kd 0 d 0=0 by unfold kd;(repeat' split)<;>omega];exact F1 d w sd ρa
 ·-- zzp
  by_cases q:Md<n
  ·rw[show kd 0 0 n=0 by unfold kd;(repeat' split)<;>omega];exact zf n w sn ρa
  rw[show kd 0 0 n=0 by unfold kd;(repeat' split)<;>omega];exact DU n w sn ρa
 ·-- zzz
  rw[show kd 0 0 0=1 by unfold kd;(repeat' split)<;>omega];exact FX  w
theorem Gw (w:ϖ):
  CB 10 #[φ (aP 0 0 0)] w Ko:=by
 unfold CB;go_in;go_wp2
 all_goals
  go_ret;exact⟨rfl,ρE⟩
theorem Au (m:Int)(w:ϖ)(pm:0<m)(y0:Md<m):
  CB 10 #[φ (aP m 0 0)] w Kz:=by
 have nm:(m==0)=false:=ZN.2 ρa;refine δr ?_;intro PA aV;unfold CB;go_in;go_wp2
 all_goals
  go_ret;exact⟨rfl,ρE⟩
theorem As (m n:Int)(w:ϖ)(pm:0<m)(pn:0<n)(y0:Md<m):
  CB 10 #[φ (aP m 0 n)] w Kz:=by
 have nm:(m==0)=false:=ZN.2 ρa;have nn:(n==0)=false:=ZN.2 ρa;refine δr ?_;intro PA aV;unfold CB;go_in;go_wp2
 all_goals
  go_ret;exact⟨rfl,ρE⟩
theorem Ar (m d:Int)(w:ϖ)(pm:0<m)(pd:0<d)(y0:Md<m):
  CB 10 #[φ (aP m d 0)] w Kz:=by
 refine η5 ?_;intro nm nd;refine δr ?_;intro PA aV;unfold CB;go_in;go_wp2
 all_goals
  go_ret;exact⟨rfl,ρE⟩
theorem Aq (m d n:Int)(w:ϖ)(pm:0<m)(pd:0<d)(pn:0<n)(y0:Md<m):
  CB 10 #[φ (aP m d n)] w Kz:=by
 refine η5 ?_;intro nm nd;have nn:(n==0)=false:=ZN.2 ρa;refine δr ?_;intro PA aV;unfold CB;go_in;go_wp2
 all_goals
  go_ret;exact⟨rfl,ρE⟩
theorem Ay (n:Int)(w:ϖ)(pn:0<n)(y0:Md<n):
  CB 10 #[φ (aP 0 0 n)] w Kz:=by
 refine δC ?_;intro nn PA aV;unfold CB;go_in;go_wp2
 all_goals
  go_ret;exact⟨rfl,ρE⟩
theorem Ax (d n:Int)(w:ϖ)(pd:0<d)(pn:0<n)(y0:Md<n):
  CB 10 #[φ (aP 0 d n)] w Kz:=by
 have nd:(d==0)=false:=ZN.2 ρa;refine δC ?_;intro nn PA aV;unfold CB;go_in;go_wp2
 all_goals
  go_ret;exact⟨rfl,ρE⟩
theorem Aw (m n:Int)(w:ϖ)(pm:0<m)(pn:0<n)(y0:m<=Md)(y1:Md<n):
  CB 10 #[φ (aP m 0 n)] w Kz:=by
 have nm:(m==0)=false:=ZN.2 ρa;refine δv ?_;intro nn aV VX bX;unfold CB;go_in;go_wp2
 all_goals
  go_ret;exact⟨rfl,ρE⟩
theorem Av (m d n:Int)(w:ϖ)(pm:0<m)(pd:0<d)(pn:0<n)(y0:m<=Md)(y1:Md<n):
  CB 10 #[φ (aP m d n)] w Kz:=by
 refine η5 ?_;intro nm nd;refine δv ?_;intro nn aV VX bX;unfold CB;go_in;go_wp2
 all_goals
  go_ret;exact⟨rfl,ρE⟩
theorem AC (d:Int)(w:ϖ)(pd:0<d)(y0:1048576<d):
  CB 10 #[φ (aP 0 d 0)] w Kz:=by
 have nd:(d==0)=false:=ZN.2 ρa;have PA:decide (1048576<d)=true:=ZT y0;have aV:=df (d<1048576);unfold CB;go_in;go_wp2
 all_goals
  go_ret;exact⟨rfl,ρE⟩
theorem AB (d n:Int)(w:ϖ)(pd:0<d)(pn:0<n)(y0:n<=Md)(y1:1048576<d):
  CB 10 #[φ (aP 0 d n)] w Kz:=by
 refine δI ?_;intro nd nn aV;have VX:decide (1048576<d)=true:=ZT y1;have bX:=df (d<1048576);unfold CB;go_in;go_wp2
 all_goals
  go_ret;exact⟨rfl,ρE⟩
theorem AA (m d:Int)(w:ϖ)(pm:0<m)(pd:0<d)(y0:m<=Md)(y1:1048576<d):
  CB 10 #[φ (aP m d 0)] w Kz:=by
 refine η5 ?_;intro nm nd;have aV:=df (Md<m);have VX:decide (1048576<d)=true:=ZT y1;have bX:=df (d<1048576);unfold CB;go_in;go_wp2
 all_goals
  go_ret;exact⟨rfl,ρE⟩
theorem Az (m d n:Int)(w:ϖ)(pm:0<m)(pd:0<d)(pn:0<n)(y0:m<=Md)(y1:n<=Md)(y2:1048576<d):
  CB 10 #[φ (aP m d n)] w Kz:=by
 refine η5 ?_;intro nm nd;refine δg ?_;intro nn aV bX;have dt2:decide (1048576<d)=true:=ZT y2;have gV:=df (d<1048576);unfold CB;go_in;go_wp2
 all_goals
  go_ret;exact⟨rfl,ρE⟩
theorem Gx (m:Int)(w:ϖ)(pm:0<m)(y0:m<=Md):
  CB 10 #[φ (aP m 0 m)] w (ι ε 2):=by
 have nm:(m==0)=false:=ZN.2 ρa;have aV:=df (Md<m);unfold CB;go_in;go_wp2
 all_goals
  go_ret;exact⟨rfl,ρE⟩
theorem EP (n:Int)(w:ϖ)(pn:0<n)(y0:n<=Md):
  CB 10 #[φ (aP 0 0 n)] w Kz:=by
 have nn:(n==0)=false:=ZN.2 ρa;have aV:=df (Md<n);have nn0:((0:Int)==n)=false:=ZN.2 ρa;unfold CB;go_in;go_wp2
 all_goals
  go_ret;exact⟨rfl,ρE⟩
theorem EQ (m:Int)(w:ϖ)(pm:0<m)(y0:m<=Md):
  CB 10 #[φ (aP m 0 0)] w Kz:=by
 have nm:(m==0)=false:=ZN.2 ρa;have aV:=df (Md<m);unfold CB;go_in;go_wp2
 all_goals
  go_ret;exact⟨rfl,ρE⟩
theorem ER (m n:Int)(w:ϖ)(pm:0<m)(pn:0<n)(y0:m<=Md)(y1:n<=Md)(y2:m<n):
  CB 10 #[φ (aP m 0 n)] w Kz:=by
 have nm:(m==0)=false:=ZN.2 ρa;refine δg ?_;intro nn aV bX;have dt2:decide (m<n)=true:=ZT y2;have gV:=df (n<m);have ne2:(m==n)=false:=ZN.2 ρa;have nf2:(m==n)=false:=ZN.2 ρa;unfold CB;go_in;go_wp2
 all_goals
  go_ret;exact⟨rfl,ρE⟩
theorem ES (m n:Int)(w:ϖ)(pm:0<m)(pn:0<n)(y0:m<=Md)(y1:n<=Md)(y2:n<m):
  CB 10 #[φ (aP m 0 n)] w Kz:=by
 have nm:(m==0)=false:=ZN.2 ρa;refine δg ?_;intro nn aV bX;have dt2:decide (n<m)=true:=ZT y2;have gV:=df (m<n);have ne2:(n==m)=false:=ZN.2 ρa;have nf2:(m==n)=false:=ZN.2 ρa;unfold CB;go_in;go_wp2
 all_goals
  go_ret;exact⟨rfl,ρE⟩
theorem ET (m d:Int)(w:ϖ)(pm:0<m)(pd:0<d)(y0:m<=Md)(y1:d<=1048576):
  CB 10 #[φ (aP m d 0)] w (ι ε 3):=by
 refine η5 ?_;intro nm nd;have aV:=df (Md<m);have bX:=df (1048576<d);unfold CB;go_in;go_wp2
 all_goals
  go_ret;exact⟨rfl,ρE⟩
theorem EU (m d n:Int)(w:ϖ)(pm:0<m)(pd:0<d)(pn:0<n)(y0:m<=Md)(y1:n<=Md)(y2:d<=1048576)(y3:n<m):
  CB 10 #[φ (aP m d n)] w (ι ε 3):=by
 refine η5 ?_;intro nm nd;refine δg ?_;intro nn aV bX;have gV:=df (1048576<d);have dt3:decide (n<m)=true:=ZT y3;have iY:=df (m<n);have ne3:(n==m)=false:=ZN.2 ρa;have nf3:(m==n)=false:=ZN.2 ρa;unfold CB;go_in;go_wp2
 all_goals
  go_ret;exact⟨rfl,ρE⟩
theorem Gy (d n:Int)(w:ϖ)(pd:0<d)(pn:0<n)(y0:n<=Md)(y1:d<=1048576):
  CB 10 #[φ (aP 0 d n)] w (ι ε 4):=by
 refine δI ?_;intro nd nn aV;have bX:=df (1048576<d);unfold CB;go_in;go_wp2
 all_goals
  go_ret;exact⟨rfl,ρE⟩
theorem Gz (m d n:Int)(w:ϖ)(pm:0<m)(pd:0<d)(pn:0<n)(y0:m<=Md)(y1:n<=Md)(y2:d<=1048576)(y3:m<=n):
  CB 10 #[φ (aP m d n)] w Kz:=by
 refine η5 ?_;intro nm nd;refine δg ?_;intro nn aV bX;have gV:=df (1048576<d);have iY:=df (n<m);unfold CB;go_in;go_wp2
 all_goals
  go_ret;exact⟨rfl,ρE⟩
theorem GA (d:Int)(w:ϖ)(pd:0<d)(y0:d<=1048576):
  CB 10 #[φ (aP 0 d 0)] w Kz:=by
 have nd:(d==0)=false:=ZN.2 ρa;have aV:=df (1048576<d);unfold CB;go_in;go_wp2
 all_goals
  go_ret;exact⟨rfl,ρE⟩
theorem bi (m d n c:Int)(w:ϖ)(hm:0<=m)(hd:0<=d)(hn:0<=n)(h:kd m d n=c):
  CB 10 #[φ (aP m d n)] w (ι ε c):=by
 subst h;rcases Int.lt_or_eq_of_le hm with sm|sm<;>rcases Int.lt_or_eq_of_le hd with sd|sd<;>rcases Int.lt_or_eq_of_le hn with sn|sn<;>(try subst sm)<;>(try subst sd)<;>(try subst sn)
 ·-- ppp
  by_cases q:Md<m
  ·rw[show kd m d n=0 by unfold kd;(repeat' split)<;>omega];exact Aq m d n w sm sd sn ρa
  by_cases q:Md<n
  ·rw[show kd m d n=0 by unfold kd;(repeat' split)<;>omega];exact Av m d n w sm sd sn ρa ρa
  by_cases q:1048576<d
  ·rw[show kd m d n=0 by unfold kd;(repeat' split)<;>omega];exact Az m d n w sm sd sn ρa ρa ρa
  by_cases q:n<m
  ·rw[show kd m d n=3 by unfold kd;(repeat' split)<;>omega];exact EU m d n w sm sd sn ρa ρa ρa ρa
  rw[show kd m d n=0 by unfold kd;(repeat' split)<;>omega];exact Gz m d n w sm sd sn ρa ρa ρa ρa
 ·-- ppz
  by_cases q:Md<m
  ·rw[show kd m d 0=0 by unfold kd;(repeat' split)<;>omega];exact Ar m d w sm sd ρa
  by_cases q:1048576<d
  ·rw[show kd m d 0=0 by unfold kd;(repeat' split)<;>omega];exact AA m d w sm sd ρa ρa
  rw[show kd m d 0=3 by unfold kd;(repeat' split)<;>omega];exact ET m d w sm sd ρa ρa
 ·-- pzp
  by_cases q:Md<m
  ·rw[show kd m 0 n=0 by unfold kd;(repeat' split)<;>omega];exact As m n w sm sn ρa
  by_cases q:Md<n
  ·rw[show kd m 0 n=0 by unfold kd;(repeat' split)<;>omega];exact Aw m n w sm sn ρa ρa
  by_cases q:m=n
  ·subst q;rw[show kd m 0 m=2 by unfold kd;(repeat' split)<;>omega];exact Gx m w sm ρa
  by_cases q:m<n
  ·rw[show kd m 0 n=0 by unfold kd;(repeat' split)<;>omega];exact ER m n w sm sn ρa ρa ρa
  rw[show kd m 0 n=0 by unfold kd;(repeat' split)<;>omega];exact ES m n w sm sn ρa ρa ρa
 ·-- pzz
  by_cases q:Md<m
  ·rw[show kd m 0 0=0 by unfold kd;(repeat' split)<;>omega];exact Au m w sm ρa
  rw[show kd m 0 0=0 by unfold kd;(repeat' split)<;>omega];exact EQ m w sm ρa
 ·-- zpp
  by_cases q:Md<n
  ·rw[show kd 0 d n=0 by unfold kd;(repeat' split)<;>omega];exact Ax d n w sd sn ρa
  by_cases q:1048576<d
  ·rw[show kd 0 d n=0 by unfold kd;(repeat' split)<;>omega];exact AB d n w sd sn ρa ρa
  rw[show kd 0 d n=4 by unfold kd;(repeat' split)<;>omega];exact Gy d n w sd sn ρa ρa
 ·-- zpz
  by_cases q:1048576<d
  ·rw[show kd 0 d 0=0 by unfold kd;(repeat' split)<;>omega];exact AC d w sd ρa
  rw[show kd 0 d 0=0 by unfold kd;(repeat' split)<;>omega];exact GA d w sd ρa
 ·-- zzp
  by_cases q:Md<n
  ·rw[show kd 0 0 n=0 by unfold kd;(repeat' split)<;>omega];exact Ay n w sn ρa
  rw[show kd 0 0 n=0 by unfold kd;(repeat' split)<;>omega];exact EP n w sn ρa
 ·-- zzz
  rw[show kd 0 0 0=1 by unfold kd;(repeat' split)<;>omega];exact Gw  w
abbrev cls (id par:Int)(lf:Bool)(r0 r1 r2 l0 l1 l2 u0 u1 u2 pk by_:Int):ϗ:=φ #[ι ε id,ι ε par,β lf,ι υ r0,ι υ r1,ι υ r2,ι υ l0,ι υ l1,ι υ l2,ι υ u0,ι υ u1,ι υ u2,ι ε pk,ι ε by_]
def cW (k:Int):Bool:=decide (1<k)
def pM (n l m:Int):Bool:=decide (l<=n/\n<=m)
theorem ox (m d n:Int)(w:ϖ)(h:0<=m/\0<=d/\0<=n):
  CB 138 #[φ (aP m d n)] w (β (cW (kd m d n))):=by
 rcases hc:cW (kd m d n) with _|_
 all_goals
  have hd:decide (1<kd m d n)=_:=hc;clear hc;unfold CB;go_in;go_wp2_with fail;refine(bU m d n _ _ h.1 h.2.1 h.2.2 rfl).mono ?_;refine δN ?_;intro w1 g1 Jf;go_wp2;go_ret;exact⟨rfl,ρE⟩
theorem bK (m d n:Int)(w:ϖ)(h:0<=m/\0<=d/\0<=n)(b:Bool)(hb:(kd m d n !=0)=b):
  CB 182 #[φ (aP m d n)] w (β b):=by
 subst hb;unfold CB;go_in;go_wp2_with fail;refine(bU m d n _ _ h.1 h.2.1 h.2.2 rfl).mono ?_;refine δN ?_;intro w1 g1 Jf;go_wp2;go_ret;exact⟨rfl,ρE⟩
theorem aK (n l m:Int)(w:ϖ):Calls Ψ 229 #[ι ε n,ι ε l,ι ε m] w λe w'=>e=ϰ (β (pM n l m))/\w=w':=by
 by_cases h1:l<=n
 ·by_cases h2:n<=m
  ·rw[show pM n l m=true from ZT ⟨h1,h2⟩];have d1:=ZT h1;exact ξx
  ·rw[show pM n l m=false from ZF λh=>h2 h.2];have d1:=ZT h1;have d2:=ZF h2;exact ξx
 ·rw[show pM n l m=false from ZF λh=>h1 h.1];have d1:=ZF h1;exact ξx
theorem bm (id par:Int)(lf:Bool)(r0 r1 r2 l0 l1 l2 u0 u1 u2 pk by_:Int)(w:ϖ)(h:0<=r0/\0<=r1/\0<=r2):
  CB 118 #[cls id par lf r0 r1 r2 l0 l1 l2 u0 u1 u2 pk by_] w (β (cW (kd r0 r1 r2))):=by
 unfold CB;go_in;go_wp2_with fail;refine(ox r0 r1 r2 _ h).mono ?_;refine δN ?_;intro w1 g1 Jf;go_wp2;go_ret;exact⟨rfl,ρE⟩
theorem aO (id par:Int)(lf:Bool)(r0 r1 r2 l0 l1 l2 u0 u1 u2 pk by_:Int)(w:ϖ)(h:0<=l0/\0<=l1/\0<=l2):
  CB 105 #[cls id par lf r0 r1 r2 l0 l1 l2 u0 u1 u2 pk by_] w (β (cW (kd l0 l1 l2))):=by
 unfold CB;go_in;go_wp2_with fail;refine(ox l0 l1 l2 _ h).mono ?_;refine δN ?_;intro w1 g1 Jf;go_wp2;go_ret;exact⟨rfl,ρE⟩
theorem aL (id par:Int)(lf:Bool)(r0 r1 r2 l0 l1 l2 u0 u1 u2 pk by_:Int)(w:ϖ)(h:0<=u0/\0<=u1/\0<=u2):
  CB 230 #[cls id par lf r0 r1 r2 l0 l1 l2 u0 u1 u2 pk by_] w (β (cW (kd u0 u1 u2))):=by
 unfold CB;go_in;go_wp2_with fail;refine(ox u0 u1 u2 _ h).mono ?_;refine δN ?_;intro w1 g1 Jf;go_wp2;go_ret;exact⟨rfl,ρE⟩
def wr (id par:Int)(lf:Bool)(r l u pk by_:Int):Int:=
 if id<1\/65536<id\/par<0\/65536<par\/id=par then 1
 else if r=0\/l=0\/u=0\/l=4\/u=4 then 21
 else if 1<u/\l=1 then 29
 else if lf=true then (if pk<1\/64<pk\/by_<1\/1048576<by_\/r=1/\l=1 then 29 else 0)
 else if pk≠0\/by_≠0\/r≠1 then 29 else 0
theorem xC (id par:Int)(lf:Bool)(r0 r1 r2 l0 l1 l2 u0 u1 u2 pk by_:Int)(w:ϖ)(h:id<1\/65536<id\/par<0\/65536<par\/id=par):
  CB 175 #[cls id par lf r0 r1 r2 l0 l1 l2 u0 u1 u2 pk by_] w Ko:=by
 by_cases h1:1<=id/\id<=65536
 ·have f1:pM id 1 65536=true:=ZT h1;by_cases h2:0<=par/\par<=65536
  ·have f2:pM par 0 65536=true:=ZT h2;have f3:(par==id)=true:=beq_iff_eq.2 ρa;exact ξT
  ·have f2:pM par 0 65536=false:=ZF h2;exact ξT
 ·have f1:pM id 1 65536=false:=ZF h1;exact ξT
theorem xF (id par:Int)(lf:Bool)(r0 r1 r2 l0 l1 l2 u0 u1 u2 pk by_:Int)(w:ϖ)(hr:0<=r0/\0<=r1/\0<=r2)(hl:0<=l0/\0<=l1/\0<=l2)(hu:0<=u0/\0<=u1/\0<=u2)(My:1<=id/\id<=65536)(Jy:0<=par/\par<=65536)(IX:id≠par)(qr:(kd r0 r1 r2 !=0)=false):
  CB 175 #[cls id par lf r0 r1 r2 l0 l1 l2 u0 u1 u2 pk by_] w (ι ε 21):=by
 refine η0 ?_;intro f1 f2 f3 i0 i1 i2;unfold CB;go_in;go_wp2_with (first|(go_at_call 229;refine(aK _ _ _ _).mono ?_;rintro e w' ⟨rfl,rfl⟩));refine wp_loop_rounds 4 ?_;rw[cV];go_wp2_with fail;refine(bK r0 r1 r2 _ hr false qr).mono ?_;refine δq ?_;intro w1 IG A1;refine η2 ?_;intro g1 Jf;clear IG;have Rr:=A1.r;go_wp2;go_ret;exact⟨rfl,ρE⟩
theorem xD (id par:Int)(lf:Bool)(r0 r1 r2 l0 l1 l2 u0 u1 u2 pk by_:Int)(w:ϖ)(hr:0<=r0/\0<=r1/\0<=r2)(hl:0<=l0/\0<=l1/\0<=l2)(hu:0<=u0/\0<=u1/\0<=u2)(My:1<=id/\id<=65536)(Jy:0<=par/\par<=65536)(IX:id≠par)(qr:(kd r0 r1 r2 !=0)=true)(ql:(kd l0 l1 l2 !=0)=false):
  CB 175 #[cls id par lf r0 r1 r2 l0 l1 l2 u0 u1 u2 pk by_] w (ι ε 21):=by
 refine η0 ?_;intro f1 f2 f3 i0 i1 i2;unfold CB;go_in;go_wp2_with (first|(go_at_call 229;refine(aK _ _ _ _).mono ?_;rintro e w' ⟨rfl,rfl⟩));refine wp_loop_rounds 4 ?_;rw[cV];go_wp2_with fail;refine δO ?_;intro w1 A1 g1 Jf Rr;go_wp2;rw[cV];go_wp2_with fail;refine(bK l0 l1 l2 _ hl false ql).mono ?_;rintro e w2 ⟨rfl,IW⟩;have A2:=A1.tr IW;have MW:ah w2 w1 (aP l0 l1 l2) 41:=Zv IW;refine η9 ?_;intro g2 Jr;clear IW;replace Rr:=θ2 A2.r MW.r;go_wp2;go_ret;exact⟨rfl,ρE⟩
theorem xE (id par:Int)(lf:Bool)(r0 r1 r2 l0 l1 l2 u0 u1 u2 pk by_:Int)(w:ϖ)(hr:0<=r0/\0<=r1/\0<=r2)(hl:0<=l0/\0<=l1/\0<=l2)(hu:0<=u0/\0<=u1/\0<=u2)(My:1<=id/\id<=65536)(Jy:0<=par/\par<=65536)(IX:id≠par)(qr:(kd r0 r1 r2 !=0)=true)(ql:(kd l0 l1 l2 !=0)=true)(sl:(kd l0 l1 l2==4)=true):
  CB 175 #[cls id par lf r0 r1 r2 l0 l1 l2 u0 u1 u2 pk by_] w (ι ε 21):=by
 refine η0 ?_;intro f1 f2 f3 i0 i1 i2;unfold CB;go_in;go_wp2_with (first|(go_at_call 229;refine(aK _ _ _ _).mono ?_;rintro e w' ⟨rfl,rfl⟩));refine wp_loop_rounds 4 ?_;rw[cV];go_wp2_with fail;refine δO ?_;intro w1 A1 g1 Jf Rr;go_wp2;rw[cV];go_wp2_with fail;refine δo ?_;intro w2 IW A2 MW;refine η9 ?_;intro g2 Jr;clear IW;replace Rr:=θ2 A2.r MW.r;go_wp2_with fail;refine δh ?_;clear Rr;intro w3 A3 OA g3 LD Rr;go_wp2;go_ret;exact⟨rfl,ρE⟩
theorem xG (id par:Int)(lf:Bool)(r0 r1 r2 l0 l1 l2 u0 u1 u2 pk by_:Int)(w:ϖ)(hr:0<=r0/\0<=r1/\0<=r2)(hl:0<=l0/\0<=l1/\0<=l2)(hu:0<=u0/\0<=u1/\0<=u2)(My:1<=id/\id<=65536)(Jy:0<=par/\par<=65536)(IX:id≠par)(qr:(kd r0 r1 r2 !=0)=true)(ql:(kd l0 l1 l2 !=0)=true)(qu:(kd u0 u1 u2 !=0)=false)(sl:(kd l0 l1 l2==4)=false):
  CB 175 #[cls id par lf r0 r1 r2 l0 l1 l2 u0 u1 u2 pk by_] w (ι ε 21):=by
 refine η0 ?_;intro f1 f2 f3 i0 i1 i2;unfold CB;go_in;go_wp2_with (first|(go_at_call 229;refine(aK _ _ _ _).mono ?_;rintro e w' ⟨rfl,rfl⟩));refine wp_loop_rounds 4 ?_;rw[cV];go_wp2_with fail;refine δO ?_;intro w1 A1 g1 Jf Rr;go_wp2;rw[cV];go_wp2_with fail;refine δo ?_;intro w2 IW A2 MW;refine η9 ?_;intro g2 Jr;clear IW;replace Rr:=θ2 A2.r MW.r;go_wp2_with fail;refine δh ?_;clear Rr;intro w3 A3 OA g3 LD Rr;go_wp2;rw[cV];go_wp2_with fail;refine(bK u0 u1 u2 _ hu false qu).mono ?_;refine δu ?_;clear Rr;intro w4 A4 Pf g4 RR Rr;go_wp2;go_ret;exact⟨rfl,ρE⟩
theorem xH (id par:Int)(lf:Bool)(r0 r1 r2 l0 l1 l2 u0 u1 u2 pk by_:Int)(w:ϖ)(hr:0<=r0/\0<=r1/\0<=r2)(hl:0<=l0/\0<=l1/\0<=l2)(hu:0<=u0/\0<=u1/\0<=u2)(My:1<=id/\id<=65536)(Jy:0<=par/\par<=65536)(IX:id≠par)(qr:(kd r0 r1 r2 !=0)=true)(ql:(kd l0 l1 l2 !=0)=true)(qu:(kd u0 u1 u2 !=0)=true)(sl:(kd l0 l1 l2==4)=false)(su:(kd u0 u1 u2==4)=true):
  CB 175 #[cls id par lf r0 r1 r2 l0 l1 l2 u0 u1 u2 pk by_] w (ι ε 21):=by
 refine η0 ?_;intro f1 f2 f3 i0 i1 i2;unfold CB;go_in;go_wp2_with (first|(go_at_call 229;refine(aK _ _ _ _).mono ?_;rintro e w' ⟨rfl,rfl⟩));refine wp_loop_rounds 4 ?_;rw[cV];go_wp2_with fail;refine δO ?_;intro w1 A1 g1 Jf Rr;go_wp2;rw[cV];go_wp2_with fail;refine δo ?_;intro w2 IW A2 MW;refine η9 ?_;intro g2 Jr;clear IW;replace Rr:=θ2 A2.r MW.r;go_wp2_with fail;refine δh ?_;clear Rr;intro w3 A3 OA g3 LD Rr;go_wp2;rw[cV];go_wp2_with fail;refine(bK u0 u1 u2 _ hu true qu).mono ?_;refine δu ?_;clear Rr;intro w4 A4 Pf g4 RR Rr;go_wp2_with fail;refine δH ?_;clear Rr;intro w5 A5 RC g5 QZ Rr;go_wp2;go_ret;exact⟨rfl,ρE⟩
theorem yD (id par:Int)(lf:Bool)(r0 r1 r2 l0 l1 l2 u0 u1 u2 pk by_:Int)(w:ϖ)(hr:0<=r0/\0<=r1/\0<=r2)(hl:0<=l0/\0<=l1/\0<=l2)(hu:0<=u0/\0<=u1/\0<=u2)(y:id<1):
  CB 95 #[cls id par lf r0 r1 r2 l0 l1 l2 u0 u1 u2 pk by_] w Ko:=by
 have dd:decide (id<1)=true:=ZT y;unfold CB;go_in;go_wp2;go_ret;exact⟨rfl,ρE⟩
theorem yE (id par:Int)(lf:Bool)(r0 r1 r2 l0 l1 l2 u0 u1 u2 pk by_:Int)(w:ϖ)(hr:0<=r0/\0<=r1/\0<=r2)(hl:0<=l0/\0<=l1/\0<=l2)(hu:0<=u0/\0<=u1/\0<=u2)(n0:¬id<1)(y:65536<id):
  CB 95 #[cls id par lf r0 r1 r2 l0 l1 l2 u0 u1 u2 pk by_] w Ko:=by
 have d0:decide (id<1)=false:=ZF n0;have dd:decide (65536<id)=true:=ZT y;unfold CB;go_in;go_wp2;go_ret;exact⟨rfl,ρE⟩
theorem yF (id par:Int)(lf:Bool)(r0 r1 r2 l0 l1 l2 u0 u1 u2 pk by_:Int)(w:ϖ)(hr:0<=r0/\0<=r1/\0<=r2)(hl:0<=l0/\0<=l1/\0<=l2)(hu:0<=u0/\0<=u1/\0<=u2)(n0:¬id<1)(n1:¬65536<id)(y:par<0):
  CB 95 #[cls id par lf r0 r1 r2 l0 l1 l2 u0 u1 u2 pk by_] w Ko:=by
 have d0:decide (id<1)=false:=ZF n0;have d1:decide (65536<id)=false:=ZF n1;have dd:decide (par<0)=true:=ZT y;unfold CB;go_in;go_wp2;go_ret;exact⟨rfl,ρE⟩
theorem yG (id par:Int)(lf:Bool)(r0 r1 r2 l0 l1 l2 u0 u1 u2 pk by_:Int)(w:ϖ)(hr:0<=r0/\0<=r1/\0<=r2)(hl:0<=l0/\0<=l1/\0<=l2)(hu:0<=u0/\0<=u1/\0<=u2)(n0:¬id<1)(n1:¬65536<id)(n2:¬par<0)(y:65536<par):
  CB 95 #[cls id par lf r0 r1 r2 l0 l1 l2 u0 u1 u2 pk by_] w Ko:=by
 have d0:decide (id<1)=false:=ZF n0;have d1:decide (65536<id)=false:=ZF n1;have d2:decide (par<0)=false:=ZF n2;have dd:decide (65536<par)=true:=ZT y;unfold CB;go_in;go_wp2;go_ret;exact⟨rfl,ρE⟩
theorem yH (id par:Int)(lf:Bool)(r0 r1 r2 l0 l1 l2 u0 u1 u2 pk by_:Int)(w:ϖ)(hr:0<=r0/\0<=r1/\0<=r2)(hl:0<=l0/\0<=l1/\0<=l2)(hu:0<=u0/\0<=u1/\0<=u2)(n0:¬id<1)(n1:¬65536<id)(n2:¬par<0)(n3:¬65536<par)(y:id=par):
  CB 95 #[cls id par lf r0 r1 r2 l0 l1 l2 u0 u1 u2 pk by_] w Ko:=by
 have d0:decide (id<1)=false:=ZF n0;have d1:decide (65536<id)=false:=ZF n1;have d2:decide (par<0)=false:=ZF n2;have d3:decide (65536<par)=false:=ZF n3;have dd:(id==par)=true:=beq_iff_eq.2 y;clear y;unfold CB;go_in;go_wp2;go_ret;exact⟨rfl,ρE⟩
theorem Bn (id par:Int)(lf:Bool)(r0 r1 r2 l0 l1 l2 u0 u1 u2 pk by_:Int)(w:ϖ)(hr:0<=r0/\0<=r1/\0<=r2)(hl:0<=l0/\0<=l1/\0<=l2)(hu:0<=u0/\0<=u1/\0<=u2)(My:1<=id/\id<=65536)(Jy:0<=par/\par<=65536)(IX:id≠par):
  CB 95 #[cls id par lf r0 r1 r2 l0 l1 l2 u0 u1 u2 pk by_] w (ι ε (wr id par lf (kd r0 r1 r2) (kd l0 l1 l2) (kd u0 u1 u2) pk by_)):=by
 have d1:=df (id<1);have d2:=df (65536<id);have d3:=df (par<0);have d4:=df (65536<par);have d5:(id==par)=false:=ZN.2 IX;unfold CB;go_in;go_wp2_with fail;refine(bi r0 r1 r2 _ _ hr.1 hr.2.1 hr.2.2 rfl).mono ?_;refine δq ?_;intro w1 IG A1;refine η2 ?_;intro g1 Jf;clear IG;have Rr:=A1.r;go_wp2_with fail;refine(bi l0 l1 l2 _ _ hl.1 hl.2.1 hl.2.2 rfl).mono ?_;rintro e w2 ⟨rfl,IW⟩;have A2:=A1.tr IW;refine η9 ?_;intro g2 Jr;clear IW;replace Rr:=A2.r;go_wp2_with fail;refine(bi u0 u1 u2 _ _ hu.1 hu.2.1 hu.2.2 rfl).mono ?_;rintro e w3 ⟨rfl,JJ⟩;have A3:=A2.tr JJ;have g3:=Tg w JJ;have LD:=JJ.size;(try simp at LD);clear JJ;replace Rr:=A3.r;clear A1 A2 A3 g1 g2;go_wp2
 all_goals
  go_ret;refine⟨dP ?_,ρE⟩;have kr:=fV r0 r1 r2;have kl:=fV l0 l1 l2;have ku:=fV u0 u1 u2;generalize kd r0 r1 r2=r at*;generalize kd l0 l1 l2=l at*;generalize kd u0 u1 u2=u at*;clear g3;simp only[beq_iff_eq,ZN,ne_eq] at*;cases lf<;>first|contradiction|(unfold wr;simp only[Bool.false_eq_true,if_false,if_true];(repeat' split)<;>first|omega|(exfalso;simp_all;done)|(simp_all;done)|(exfalso;simp_all;omega))
theorem vV (id par:Int)(lf:Bool)(r0 r1 r2 l0 l1 l2 u0 u1 u2 pk by_:Int)(w:ϖ)(hr:0<=r0/\0<=r1/\0<=r2)(hl:0<=l0/\0<=l1/\0<=l2)(hu:0<=u0/\0<=u1/\0<=u2)(c:Int)(h:wr id par lf (kd r0 r1 r2) (kd l0 l1 l2) (kd u0 u1 u2) pk by_=c):
  CB 95 #[cls id par lf r0 r1 r2 l0 l1 l2 u0 u1 u2 pk by_] w (ι ε c):=by
 subst h;by_cases h:id<1\/65536<id\/par<0\/65536<par\/id=par
 ·rw[show wr id par lf (kd r0 r1 r2) (kd l0 l1 l2) (kd u0 u1 u2) pk by_=1 by unfold wr;rw[ZP h]];by_cases n0:id<1
  ·exact yD id par lf r0 r1 r2 l0 l1 l2 u0 u1 u2 pk by_ w hr hl hu n0
  by_cases n1:65536<id
  ·exact yE id par lf r0 r1 r2 l0 l1 l2 u0 u1 u2 pk by_ w hr hl hu n0 n1
  by_cases n2:par<0
  ·exact yF id par lf r0 r1 r2 l0 l1 l2 u0 u1 u2 pk by_ w hr hl hu n0 n1 n2
  by_cases n3:65536<par
  ·exact yG id par lf r0 r1 r2 l0 l1 l2 u0 u1 u2 pk by_ w hr hl hu n0 n1 n2 n3
  exact yH id par lf r0 r1 r2 l0 l1 l2 u0 u1 u2 pk by_ w hr hl hu n0 n1 n2 n3 ρa
 ·exact Bn id par lf r0 r1 r2 l0 l1 l2 u0 u1 u2 pk by_ w hr hl hu ρa ρa ρa
end Go.Proofs.YtfdlemkplejdnaaGreat
