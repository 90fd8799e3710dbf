/- WholeLatest, part 3. Conditions: none. -/
import Derived.Test.YtfdlemkplejdnaaGreatA2
import Derived.Laws.StructEq
import Derived.Deep.MidRow
import Derived.ProofKit
import Derived.OpenShut
import Derived.ShutString
import Derived.ChangeOld
import Derived.Lib.SmallJoins
import Derived.MapKept
import Derived.WideMake
import Derived.Laws.IdiomRangeMap
import Derived.Laws.BytesArg
namespace Go.Proofs.YtfdlemkplejdnaaGreat
open Go.RowKit Go.Sort
open Value renaming int->ι,pointer->ψ,slice->ζ,tuple->χ,agg->φ,map->μ,bool->β
open IntKind renaming u64->υ,i64->ε,u16->ω
open Ending renaming returned->ϰ
open Go.Proofs.Tryz renaming prog->Ψ,underlying3->Θ,underlying147->Δ,underlying152->Γ,underlying202->Φ,underlying39->Ξ,underlying207->Ω
open Go renaming World->ϖ,Value->ϗ
set_option linter.unusedVariables false
set_option linter.unusedSimpArgs false
set_option maxHeartbeats 8000000
set_option maxRecDepth 100000
theorem kI (P:Program)(w:ϖ)(d:Nat)(t e:TypeId)(k:IntKind)(ht:P.underlying t=some (.array 4 e))(he:P.underlying e=some (.int k))(hs:∀w,(sizeOf e).run P w=.ok 1 w)(hi:∀w,(isAgg e).run P w=.ok false w)
  (a0 a1 a2 a3 b0 b1 b2 b3:Int):
  (Op.equalIn (d+2) t (φ #[.int k a0,.int k a1,.int k a2,.int k a3]) (φ #[.int k b0,.int k b1,.int k b2,.int k b3])).run P w=.ok (a0==b0 && (a1==b1 && (a2==b2 && a3==b3))) w:=by
 rw[Op.equalIn];simp only[Sem.run_bind,run_underlying ht,Result.andThen_ok,hs];simp[List.range',part,run_equalIn_int _ _ _ _ _ _ _ he,hs,hi];rcases h0:(a0==b0) with _|_<;>rcases h1:(a1==b1) with _|_<;>rcases h2:(a2==b2) with _|_<;>rcases h3:(a3==b3) with _|_<;>simp_all
theorem Ea (P:Program)(w:ϖ)(t e:TypeId)(k:IntKind)(ht:P.underlying t=some (.array 4 e))(he:P.underlying e=some (.int k))(hs:∀w,(sizeOf e).run P w=.ok 1 w)(hi:∀w,(isAgg e).run P w=.ok false w)
  (a0 a1 a2 a3 b0 b1 b2 b3:Int) (c:Bool) (hc:(a0==b0 && (a1==b1 && (a2==b2 && a3==b3)))=c):
  (binOp .eql t (φ #[.int k a0,.int k a1,.int k a2,.int k a3]) (φ #[.int k b0,.int k b1,.int k b2,.int k b3])).run P w=.ok (β c) w:=by
 subst hc;rw[run_eql_struct,kI P w 9998 t e k ht he hs hi];rfl
def kd (m d n:Int):Int:=
 if m=0/\d=0/\n=0 then 1 else if Md<m\/Md<n\/1048576<d then 0 else if d=0/\m=n then 2 else if 0<d/\n<m then 3 else if 0<d/\m=0/\0<n then 4 else 0
theorem eP (m d n:Int):0<=kd m d n/\kd m d n<=4:=by unfold kd;(repeat' split)<;>omega
theorem Iu (w:ϖ):
  CB 173 #[φ (aH 0 0 0)] w Ko:=by
 unfold CB;go_in;go_wp2
 all_goals
  go_ret;exact⟨rfl,ρE⟩
theorem Bj (m:Int)(w:ϖ)(pm:0<m)(y0:Md<m):
  CB 173 #[φ (aH m 0 0)] w Kz:=by
 have nm:(m==0)=false:=qN.2 ρa;refine δq ?_;intro Ri aX;unfold CB;go_in;go_wp2
 all_goals
  go_ret;exact⟨rfl,ρE⟩
theorem Bi (m n:Int)(w:ϖ)(pm:0<m)(pn:0<n)(y0:Md<m):
  CB 173 #[φ (aH m 0 n)] w Kz:=by
 have nm:(m==0)=false:=qN.2 ρa;have nn:(n==0)=false:=qN.2 ρa;refine δq ?_;intro Ri aX;unfold CB;go_in;go_wp2
 all_goals
  go_ret;exact⟨rfl,ρE⟩
theorem Bh (m d:Int)(w:ϖ)(pm:0<m)(pd:0<d)(y0:Md<m):
  CB 173 #[φ (aH m d 0)] w Kz:=by
 refine η3 ?_;intro nm nd;refine δq ?_;intro Ri aX;unfold CB;go_in;go_wp2
 all_goals
  go_ret;exact⟨rfl,ρE⟩
theorem Bg (m d n:Int)(w:ϖ)(pm:0<m)(pd:0<d)(pn:0<n)(y0:Md<m):
  CB 173 #[φ (aH m d n)] w Kz:=by
 refine η3 ?_;intro nm nd;have nn:(n==0)=false:=qN.2 ρa;refine δq ?_;intro Ri aX;unfold CB;go_in;go_wp2
 all_goals
  go_ret;exact⟨rfl,ρE⟩
theorem Bo (n:Int)(w:ϖ)(pn:0<n)(y0:Md<n):
  CB 173 #[φ (aH 0 0 n)] w Kz:=by
 refine δB ?_;intro nn Ri aX;unfold CB;go_in;go_wp2
 all_goals
  go_ret;exact⟨rfl,ρE⟩
theorem Bn (d n:Int)(w:ϖ)(pd:0<d)(pn:0<n)(y0:Md<n):
  CB 173 #[φ (aH 0 d n)] w Kz:=by
 have nd:(d==0)=false:=qN.2 ρa;refine δB ?_;intro nn Ri aX;unfold CB;go_in;go_wp2
 all_goals
  go_ret;exact⟨rfl,ρE⟩
theorem Bm (m n:Int)(w:ϖ)(pm:0<m)(pn:0<n)(y0:m<=Md)(y1:Md<n):
  CB 173 #[φ (aH m 0 n)] w Kz:=by
 have nm:(m==0)=false:=qN.2 ρa;refine δu ?_;intro nn aX Xt ct;unfold CB;go_in;go_wp2
 all_goals
  go_ret;exact⟨rfl,ρE⟩
theorem Bl (m d n:Int)(w:ϖ)(pm:0<m)(pd:0<d)(pn:0<n)(y0:m<=Md)(y1:Md<n):
  CB 173 #[φ (aH m d n)] w Kz:=by
 refine η3 ?_;intro nm nd;refine δu ?_;intro nn aX Xt ct;unfold CB;go_in;go_wp2
 all_goals
  go_ret;exact⟨rfl,ρE⟩
theorem Bs (d:Int)(w:ϖ)(pd:0<d)(y0:1048576<d):
  CB 173 #[φ (aH 0 d 0)] w Kz:=by
 have nd:(d==0)=false:=qN.2 ρa;have Ri:decide (1048576<d)=true:=qT y0;have aX:=df (d<1048576);unfold CB;go_in;go_wp2
 all_goals
  go_ret;exact⟨rfl,ρE⟩
theorem Br (d n:Int)(w:ϖ)(pd:0<d)(pn:0<n)(y0:n<=Md)(y1:1048576<d):
  CB 173 #[φ (aH 0 d n)] w Kz:=by
 refine δI ?_;intro nd nn aX;have Xt:decide (1048576<d)=true:=qT y1;have ct:=df (d<1048576);unfold CB;go_in;go_wp2
 all_goals
  go_ret;exact⟨rfl,ρE⟩
theorem Bq (m d:Int)(w:ϖ)(pm:0<m)(pd:0<d)(y0:m<=Md)(y1:1048576<d):
  CB 173 #[φ (aH m d 0)] w Kz:=by
 refine η3 ?_;intro nm nd;have aX:=df (Md<m);have Xt:decide (1048576<d)=true:=qT y1;have ct:=df (d<1048576);unfold CB;go_in;go_wp2
 all_goals
  go_ret;exact⟨rfl,ρE⟩
theorem Bp (m d n:Int)(w:ϖ)(pm:0<m)(pd:0<d)(pn:0<n)(y0:m<=Md)(y1:n<=Md)(y2:1048576<d):
  CB 173 #[φ (aH m d n)] w Kz:=by
 refine η3 ?_;intro nm nd;refine δg ?_;intro nn aX ct;have dt2:decide (1048576<d)=true:=qT y2;have iU:=df (d<1048576);unfold CB;go_in;go_wp2
 all_goals
  go_ret;exact⟨rfl,ρE⟩
theorem Iv (m:Int)(w:ϖ)(pm:0<m)(y0:m<=Md):
  CB 173 #[φ (aH m 0 m)] w (ι ε 2):=by
 have nm:(m==0)=false:=qN.2 ρa;have aX:=df (Md<m);unfold CB;go_in;go_wp2
 all_goals
  go_ret;exact⟨rfl,ρE⟩
theorem FQ (n:Int)(w:ϖ)(pn:0<n)(y0:n<=Md):
  CB 173 #[φ (aH 0 0 n)] w Kz:=by
 have nn:(n==0)=false:=qN.2 ρa;have aX:=df (Md<n);have nn0:((0:Int)==n)=false:=qN.2 ρa;unfold CB;go_in;go_wp2
 all_goals
  go_ret;exact⟨rfl,ρE⟩
theorem FR (m:Int)(w:ϖ)(pm:0<m)(y0:m<=Md):
  CB 173 #[φ (aH m 0 0)] w Kz:=by
 have nm:(m==0)=false:=qN.2 ρa;have aX:=df (Md<m);unfold CB;go_in;go_wp2
 all_goals
  go_ret;exact⟨rfl,ρE⟩
theorem FS (m n:Int)(w:ϖ)(pm:0<m)(pn:0<n)(y0:m<=Md)(y1:n<=Md)(y2:m<n):
  CB 173 #[φ (aH m 0 n)] w Kz:=by
 have nm:(m==0)=false:=qN.2 ρa;refine δg ?_;intro nn aX ct;have dt2:decide (m<n)=true:=qT y2;have iU:=df (n<m);have ne2:(m==n)=false:=qN.2 ρa;have nf2:(m==n)=false:=qN.2 ρa;unfold CB;go_in;go_wp2
 all_goals
  go_ret;exact⟨rfl,ρE⟩
theorem FT (m n:Int)(w:ϖ)(pm:0<m)(pn:0<n)(y0:m<=Md)(y1:n<=Md)(y2:n<m):
  CB 173 #[φ (aH m 0 n)] w Kz:=by
 have nm:(m==0)=false:=qN.2 ρa;refine δg ?_;intro nn aX ct;have dt2:decide (n<m)=true:=qT y2;have iU:=df (m<n);have ne2:(n==m)=false:=qN.2 ρa;have nf2:(m==n)=false:=qN.2 ρa;unfold CB;go_in;go_wp2
 all_goals
  go_ret;exact⟨rfl,ρE⟩
theorem FU (m d:Int)(w:ϖ)(pm:0<m)(pd:0<d)(y0:m<=Md)(y1:d<=1048576):
  CB 173 #[φ (aH m d 0)] w (ι ε 3):=by
 refine η3 ?_;intro nm nd;have aX:=df (Md<m);have ct:=df (1048576<d);unfold CB;go_in;go_wp2
 all_goals
  go_ret;exact⟨rfl,ρE⟩
theorem FV (m d n:Int)(w:ϖ)(pm:0<m)(pd:0<d)(pn:0<n)(y0:m<=Md)(y1:n<=Md)(y2:d<=1048576)(y3:n<m):
  CB 173 #[φ (aH m d n)] w (ι ε 3):=by
 refine η3 ?_;intro nm nd;refine δg ?_;intro nn aX ct;have iU:=df (1048576<d);have dt3:decide (n<m)=true:=qT y3;have jT:=df (m<n);have ne3:(n==m)=false:=qN.2 ρa;have nf3:(m==n)=false:=qN.2 ρa;unfold CB;go_in;go_wp2
 all_goals
  go_ret;exact⟨rfl,ρE⟩
theorem Iw (d n:Int)(w:ϖ)(pd:0<d)(pn:0<n)(y0:n<=Md)(y1:d<=1048576):
  CB 173 #[φ (aH 0 d n)] w (ι ε 4):=by
 refine δI ?_;intro nd nn aX;have ct:=df (1048576<d);unfold CB;go_in;go_wp2
 all_goals
  go_ret;exact⟨rfl,ρE⟩
theorem Ix (m d n:Int)(w:ϖ)(pm:0<m)(pd:0<d)(pn:0<n)(y0:m<=Md)(y1:n<=Md)(y2:d<=1048576)(y3:m<=n):
  CB 173 #[φ (aH m d n)] w Kz:=by
 refine η3 ?_;intro nm nd;refine δg ?_;intro nn aX ct;have iU:=df (1048576<d);have jT:=df (n<m);unfold CB;go_in;go_wp2
 all_goals
  go_ret;exact⟨rfl,ρE⟩
theorem Iy (d:Int)(w:ϖ)(pd:0<d)(y0:d<=1048576):
  CB 173 #[φ (aH 0 d 0)] w Kz:=by
 have nd:(d==0)=false:=qN.2 ρa;have aX:=df (1048576<d);unfold CB;go_in;go_wp2
 all_goals
  go_ret;exact⟨rfl,ρE⟩
theorem bS (m d n c:Int)(w:ϖ)(hm:0<=m)(hd:0<=d)(hn:0<=n)(h:kd m d n=c):
  CB 173 #[φ (aH m d n)] w (ι ε c):=by
 subst h;rcases Int.lt_or_eq_of_le hm with sm|sm<;>rcases Int.lt_or_eq_of_le hd with sd|sd<;>rcases Int.lt_or_eq_of_le hn with sn|sn<;>(try subst sm)<;>(try subst sd)<;>(try subst sn)
 ·-- ppp
  by_cases q:Md<m
  ·rw[show kd m d n=0 by unfold kd;(repeat' split)<;>omega];exact Bg m d n w sm sd sn ρa
  by_cases q:Md<n
  ·rw[show kd m d n=0 by unfold kd;(repeat' split)<;>omega];exact Bl m d n w sm sd sn ρa ρa
  by_cases q:1048576<d
  ·rw[show kd m d n=0 by unfold kd;(repeat' split)<;>omega];exact Bp m d n w sm sd sn ρa ρa ρa
  by_cases q:n<m
  ·rw[show kd m d n=3 by unfold kd;(repeat' split)<;>omega];exact FV m d n w sm sd sn ρa ρa ρa ρa
  rw[show kd m d n=0 by unfold kd;(repeat' split)<;>omega];exact Ix m d n w sm sd sn ρa ρa ρa ρa
 ·-- ppz
  by_cases q:Md<m
  ·rw[show kd m d 0=0 by unfold kd;(repeat' split)<;>omega];exact Bh m d w sm sd ρa
  by_cases q:1048576<d
  ·rw[show kd m d 0=0 by unfold kd;(repeat' split)<;>omega];exact Bq m d w sm sd ρa ρa
  rw[show kd m d 0=3 by unfold kd;(repeat' split)<;>omega];exact FU m d w sm sd ρa ρa
 ·-- pzp
  by_cases q:Md<m
  ·rw[show kd m 0 n=0 by unfold kd;(repeat' split)<;>omega];exact Bi m n w sm sn ρa
  by_cases q:Md<n
  ·rw[show kd m 0 n=0 by unfold kd;(repeat' split)<;>omega];exact Bm m n w sm sn ρa ρa
  by_cases q:m=n
  ·subst q;rw[show kd m 0 m=2 by unfold kd;(repeat' split)<;>omega];exact Iv m w sm ρa
  by_cases q:m<n
  ·rw[show kd m 0 n=0 by unfold kd;(repeat' split)<;>omega];exact FS m n w sm sn ρa ρa ρa
  rw[show kd m 0 n=0 by unfold kd;(repeat' split)<;>omega];exact FT m n w sm sn ρa ρa ρa
 ·-- pzz
  by_cases q:Md<m
  ·rw[show kd m 0 0=0 by unfold kd;(repeat' split)<;>omega];exact Bj m w sm ρa
  rw[show kd m 0 0=0 by unfold kd;(repeat' split)<;>omega];exact FR m w sm ρa
 ·-- zpp
  by_cases q:Md<n
  ·rw[show kd 0 d n=0 by unfold kd;(repeat' split)<;>omega];exact Bn d n w sd sn ρa
  by_cases q:1048576<d
  ·rw[show kd 0 d n=0 by unfold kd;(repeat' split)<;>omega];exact Br d n w sd sn ρa ρa
  rw[show kd 0 d n=4 by unfold kd;(repeat' split)<;>omega];exact Iw d n w sd sn ρa ρa
 ·-- zpz
  by_cases q:1048576<d
  ·rw[show kd 0 d 0=0 by unfold kd;(repeat' split)<;>omega];exact Bs d w sd ρa
  rw[show kd 0 d 0=0 by unfold kd;(repeat' split)<;>omega];exact Iy d w sd ρa
 ·-- zzp
  by_cases q:Md<n
  ·rw[show kd 0 0 n=0 by unfold kd;(repeat' split)<;>omega];exact Bo n w sn ρa
  rw[show kd 0 0 n=0 by unfold kd;(repeat' split)<;>omega];exact FQ n w sn ρa
 ·-- zzz
  rw[show kd 0 0 0=1 by unfold kd;(repeat' split)<;>omega];exact Iu  w
theorem I8 (w:ϖ):
  CB 10 #[φ (aH 0 0 0)] w Ko:=by
 unfold CB;go_in;go_wp2
 all_goals
  go_ret;exact⟨rfl,ρE⟩
theorem BW (m:Int)(w:ϖ)(pm:0<m)(y0:Md<m):
  CB 10 #[φ (aH m 0 0)] w Kz:=by
 have nm:(m==0)=false:=qN.2 ρa;refine δq ?_;intro Ri aX;unfold CB;go_in;go_wp2
 all_goals
  go_ret;exact⟨rfl,ρE⟩
theorem BV (m n:Int)(w:ϖ)(pm:0<m)(pn:0<n)(y0:Md<m):
  CB 10 #[φ (aH m 0 n)] w Kz:=by
 have nm:(m==0)=false:=qN.2 ρa;have nn:(n==0)=false:=qN.2 ρa;refine δq ?_;intro Ri aX;unfold CB;go_in;go_wp2
 all_goals
  go_ret;exact⟨rfl,ρE⟩
theorem BU (m d:Int)(w:ϖ)(pm:0<m)(pd:0<d)(y0:Md<m):
  CB 10 #[φ (aH m d 0)] w Kz:=by
 refine η3 ?_;intro nm nd;refine δq ?_;intro Ri aX;unfold CB;go_in;go_wp2
 all_goals
  go_ret;exact⟨rfl,ρE⟩
theorem BT (m d n:Int)(w:ϖ)(pm:0<m)(pd:0<d)(pn:0<n)(y0:Md<m):
  CB 10 #[φ (aH m d n)] w Kz:=by
 refine η3 ?_;intro nm nd;have nn:(n==0)=false:=qN.2 ρa;refine δq ?_;intro Ri aX;unfold CB;go_in;go_wp2
 all_goals
  go_ret;exact⟨rfl,ρE⟩
theorem Cb (n:Int)(w:ϖ)(pn:0<n)(y0:Md<n):
  CB 10 #[φ (aH 0 0 n)] w Kz:=by
 refine δB ?_;intro nn Ri aX;unfold CB;go_in;go_wp2
 all_goals
  go_ret;exact⟨rfl,ρE⟩
theorem Ca (d n:Int)(w:ϖ)(pd:0<d)(pn:0<n)(y0:Md<n):
  CB 10 #[φ (aH 0 d n)] w Kz:=by
 have nd:(d==0)=false:=qN.2 ρa;refine δB ?_;intro nn Ri aX;unfold CB;go_in;go_wp2
 all_goals
  go_ret;exact⟨rfl,ρE⟩
theorem BZ (m n:Int)(w:ϖ)(pm:0<m)(pn:0<n)(y0:m<=Md)(y1:Md<n):
  CB 10 #[φ (aH m 0 n)] w Kz:=by
 have nm:(m==0)=false:=qN.2 ρa;refine δu ?_;intro nn aX Xt ct;unfold CB;go_in;go_wp2
 all_goals
  go_ret;exact⟨rfl,ρE⟩
theorem BX (m d n:Int)(w:ϖ)(pm:0<m)(pd:0<d)(pn:0<n)(y0:m<=Md)(y1:Md<n):
  CB 10 #[φ (aH m d n)] w Kz:=by
 refine η3 ?_;intro nm nd;refine δu ?_;intro nn aX Xt ct;unfold CB;go_in;go_wp2
 all_goals
  go_ret;exact⟨rfl,ρE⟩
theorem Cf (d:Int)(w:ϖ)(pd:0<d)(y0:1048576<d):
  CB 10 #[φ (aH 0 d 0)] w Kz:=by
 have nd:(d==0)=false:=qN.2 ρa;have Ri:decide (1048576<d)=true:=qT y0;have aX:=df (d<1048576);unfold CB;go_in;go_wp2
 all_goals
  go_ret;exact⟨rfl,ρE⟩
theorem Ce (d n:Int)(w:ϖ)(pd:0<d)(pn:0<n)(y0:n<=Md)(y1:1048576<d):
  CB 10 #[φ (aH 0 d n)] w Kz:=by
 refine δI ?_;intro nd nn aX;have Xt:decide (1048576<d)=true:=qT y1;have ct:=df (d<1048576);unfold CB;go_in;go_wp2
 all_goals
  go_ret;exact⟨rfl,ρE⟩
theorem Cd (m d:Int)(w:ϖ)(pm:0<m)(pd:0<d)(y0:m<=Md)(y1:1048576<d):
  CB 10 #[φ (aH m d 0)] w Kz:=by
 refine η3 ?_;intro nm nd;have aX:=df (Md<m);have Xt:decide (1048576<d)=true:=qT y1;have ct:=df (d<1048576);unfold CB;go_in;go_wp2
 all_goals
  go_ret;exact⟨rfl,ρE⟩
theorem Cc (m d n:Int)(w:ϖ)(pm:0<m)(pd:0<d)(pn:0<n)(y0:m<=Md)(y1:n<=Md)(y2:1048576<d):
  CB 10 #[φ (aH m d n)] w Kz:=by
 refine η3 ?_;intro nm nd;refine δg ?_;intro nn aX ct;have dt2:decide (1048576<d)=true:=qT y2;have iU:=df (d<1048576);unfold CB;go_in;go_wp2
 all_goals
  go_ret;exact⟨rfl,ρE⟩
theorem I9 (m:Int)(w:ϖ)(pm:0<m)(y0:m<=Md):
  CB 10 #[φ (aH m 0 m)] w (ι ε 2):=by
 have nm:(m==0)=false:=qN.2 ρa;have aX:=df (Md<m);unfold CB;go_in;go_wp2
 all_goals
  go_ret;exact⟨rfl,ρE⟩
theorem Gz (n:Int)(w:ϖ)(pn:0<n)(y0:n<=Md):
  CB 10 #[φ (aH 0 0 n)] w Kz:=by
 have nn:(n==0)=false:=qN.2 ρa;have aX:=df (Md<n);have nn0:((0:Int)==n)=false:=qN.2 ρa;unfold CB;go_in;go_wp2
 all_goals
  go_ret;exact⟨rfl,ρE⟩
theorem GA (m:Int)(w:ϖ)(pm:0<m)(y0:m<=Md):
  CB 10 #[φ (aH m 0 0)] w Kz:=by
 have nm:(m==0)=false:=qN.2 ρa;have aX:=df (Md<m);unfold CB;go_in;go_wp2
 all_goals
  go_ret;exact⟨rfl,ρE⟩
theorem GB (m n:Int)(w:ϖ)(pm:0<m)(pn:0<n)(y0:m<=Md)(y1:n<=Md)(y2:m<n):
  CB 10 #[φ (aH m 0 n)] w Kz:=by
 have nm:(m==0)=false:=qN.2 ρa;refine δg ?_;intro nn aX ct;have dt2:decide (m<n)=true:=qT y2;have iU:=df (n<m);have ne2:(m==n)=false:=qN.2 ρa;have nf2:(m==n)=false:=qN.2 ρa;unfold CB;go_in;go_wp2
 all_goals
  go_ret;exact⟨rfl,ρE⟩
theorem GC (m n:Int)(w:ϖ)(pm:0<m)(pn:0<n)(y0:m<=Md)(y1:n<=Md)(y2:n<m):
  CB 10 #[φ (aH m 0 n)] w Kz:=by
 have nm:(m==0)=false:=qN.2 ρa;refine δg ?_;intro nn aX ct;have dt2:decide (n<m)=true:=qT y2;have iU:=df (m<n);have ne2:(n==m)=false:=qN.2 ρa;have nf2:(m==n)=false:=qN.2 ρa;unfold CB;go_in;go_wp2
 all_goals
  go_ret;exact⟨rfl,ρE⟩
theorem GD (m d:Int)(w:ϖ)(pm:0<m)(pd:0<d)(y0:m<=Md)(y1:d<=1048576):
  CB 10 #[φ (aH m d 0)] w (ι ε 3):=by
 refine η3 ?_;intro nm nd;have aX:=df (Md<m);have ct:=df (1048576<d);unfold CB;go_in;go_wp2
 all_goals
  go_ret;exact⟨rfl,ρE⟩
theorem GF (m d n:Int)(w:ϖ)(pm:0<m)(pd:0<d)(pn:0<n)(y0:m<=Md)(y1:n<=Md)(y2:d<=1048576)(y3:n<m):
  CB 10 #[φ (aH m d n)] w (ι ε 3):=by
 refine η3 ?_;intro nm nd;refine δg ?_;intro nn aX ct;have iU:=df (1048576<d);have dt3:decide (n<m)=true:=qT y3;have jT:=df (m<n);have ne3:(n==m)=false:=qN.2 ρa;have nf3:(m==n)=false:=qN.2 ρa;unfold CB;go_in;go_wp2
 all_goals
  go_ret;exact⟨rfl,ρE⟩
theorem Ja (d n:Int)(w:ϖ)(pd:0<d)(pn:0<n)(y0:n<=Md)(y1:d<=1048576):
  CB 10 #[φ (aH 0 d n)] w (ι ε 4):=by
 refine δI ?_;intro nd nn aX;have ct:=df (1048576<d);unfold CB;go_in;go_wp2
 all_goals
  go_ret;exact⟨rfl,ρE⟩
theorem Jd (m d n:Int)(w:ϖ)(pm:0<m)(pd:0<d)(pn:0<n)(y0:m<=Md)(y1:n<=Md)(y2:d<=1048576)(y3:m<=n):
  CB 10 #[φ (aH m d n)] w Kz:=by
 refine η3 ?_;intro nm nd;refine δg ?_;intro nn aX ct;have iU:=df (1048576<d);have jT:=df (n<m);unfold CB;go_in;go_wp2
 all_goals
  go_ret;exact⟨rfl,ρE⟩
theorem Je (d:Int)(w:ϖ)(pd:0<d)(y0:d<=1048576):
  CB 10 #[φ (aH 0 d 0)] w Kz:=by
 have nd:(d==0)=false:=qN.2 ρa;have aX:=df (1048576<d);unfold CB;go_in;go_wp2
 all_goals
  go_ret;exact⟨rfl,ρE⟩
theorem bV (m d n c:Int)(w:ϖ)(hm:0<=m)(hd:0<=d)(hn:0<=n)(h:kd m d n=c):
  CB 10 #[φ (aH m d n)] w (ι ε c):=by
 subst h;rcases Int.lt_or_eq_of_le hm with sm|sm<;>rcases Int.lt_or_eq_of_le hd with sd|sd<;>rcases Int.lt_or_eq_of_le hn with sn|sn<;>(try subst sm)<;>(try subst sd)<;>(try subst sn)
 ·-- ppp
  by_cases q:Md<m
  ·rw[show kd m d n=0 by unfold kd;(repeat' split)<;>omega];exact BT m d n w sm sd sn ρa
  by_cases q:Md<n
  ·rw[show kd m d n=0 by unfold kd;(repeat' split)<;>omega];exact BX m d n w sm sd sn ρa ρa
  by_cases q:1048576<d
  ·rw[show kd m d n=0 by unfold kd;(repeat' split)<;>omega];exact Cc m d n w sm sd sn ρa ρa ρa
  by_cases q:n<m
  ·rw[show kd m d n=3 by unfold kd;(repeat' split)<;>omega];exact GF m d n w sm sd sn ρa ρa ρa ρa
  rw[show kd m d n=0 by unfold kd;(repeat' split)<;>omega];exact Jd m d n w sm sd sn ρa ρa ρa ρa
 ·-- ppz
  by_cases q:Md<m
  ·rw[show kd m d 0=0 by unfold kd;(repeat' split)<;>omega];exact BU m d w sm sd ρa
  by_cases q:1048576<d
  ·rw[show kd m d 0=0 by unfold kd;(repeat' split)<;>omega];exact Cd m d w sm sd ρa ρa
  rw[show kd m d 0=3 by unfold kd;(repeat' split)<;>omega];exact GD m d w sm sd ρa ρa
 ·-- pzp
  by_cases q:Md<m
  ·rw[show kd m 0 n=0 by unfold kd;(repeat' split)<;>omega];exact BV m n w sm sn ρa
  by_cases q:Md<n
  ·rw[show kd m 0 n=0 by unfold kd;(repeat' split)<;>omega];exact BZ m n w sm sn ρa ρa
  by_cases q:m=n
  ·subst q;rw[show kd m 0 m=2 by unfold kd;(repeat' split)<;>omega];exact I9 m w sm ρa
  by_cases q:m<n
  ·rw[show kd m 0 n=0 by unfold kd;(repeat' split)<;>omega];exact GB m n w sm sn ρa ρa ρa
  rw[show kd m 0 n=0 by unfold kd;(repeat' split)<;>omega];exact GC m n w sm sn ρa ρa ρa
 ·-- pzz
  by_cases q:Md<m
  ·rw[show kd m 0 0=0 by unfold kd;(repeat' split)<;>omega];exact BW m w sm ρa
  rw[show kd m 0 0=0 by unfold kd;(repeat' split)<;>omega];exact GA m w sm ρa
 ·-- zpp
  by_cases q:Md<n
  ·rw[show kd 0 d n=0 by unfold kd;(repeat' split)<;>omega];exact Ca d n w sd sn ρa
  by_cases q:1048576<d
  ·rw[show kd 0 d n=0 by unfold kd;(repeat' split)<;>omega];exact Ce d n w sd sn ρa ρa
  rw[show kd 0 d n=4 by unfold kd;(repeat' split)<;>omega];exact Ja d n w sd sn ρa ρa
 ·-- zpz
  by_cases q:1048576<d
  ·rw[show kd 0 d 0=0 by unfold kd;(repeat' split)<;>omega];exact Cf d w sd ρa
  rw[show kd 0 d 0=0 by unfold kd;(repeat' split)<;>omega];exact Je d w sd ρa
 ·-- zzp
  by_cases q:Md<n
  ·rw[show kd 0 0 n=0 by unfold kd;(repeat' split)<;>omega];exact Cb n w sn ρa
  rw[show kd 0 0 n=0 by unfold kd;(repeat' split)<;>omega];exact Gz n w sn ρa
 ·-- zzz
  rw[show kd 0 0 0=1 by unfold kd;(repeat' split)<;>omega];exact I8  w
def cV (cs:Array ϗ)(o:Nat):List ϗ->Array ϗ
 | []=>cs
 | v::r=>cV (cs.setIfInBounds o v) (o+1) r
theorem jL:∀(vs rest pre:List ϗ),rest.length=vs.length->cV (pre++rest).toArray pre.length vs=(pre++vs).toArray
 | [],[],pre,_=>by simp[cV]
 | [],_::_,_,h=>by simp at h
 | v::vs,[],_,h=>by simp at h
 | v::vs,r::rest,pre,h=>by
  have ih:=jL vs rest (pre++[v]) σ1;unfold cV;rw[List.setIfInBounds_toArray];have e:(pre++r::rest).set pre.length v=(pre++[v])++rest:=by rw[List.set_append_right _ _ (qR _)];simp
  rw[e];simpa using ih
theorem sG (cs cs':Array ϗ)(h:cs'.size=cs.size):cV cs 0 cs'.toList=cs':=by have:=jL cs'.toList cs.toList [] (by simp[h]);simpa using this
theorem ah.setCells {B:Nat} {t:TypeId}:∀(vs:List ϗ)(o:Nat)(w:ϖ)(cs:Array ϗ),ah w B cs t->ah (w.setCells B o vs) B (cV cs o vs) t
 | [],_,_,_,h=>h
 | v::r,o,w,cs,h=>ah.setCells r (o+1) _ _ (h.set_same rfl)
theorem ah.setCells_other {B b:Nat} {t:TypeId} {c:Array ϗ} (hb:b≠B):∀(vs:List ϗ)(o:Nat)(w:ϖ),ah w b c t->ah (w.setCells B o vs) b c t
 | [],_,_,h=>h
 | v::r,o,w,h=>ah.setCells_other hb r (o+1) _ (h.set_other hb _)
theorem Below.setCells {K B:Nat} {u:ϖ} (hK:K<=B):∀(vs:List ϗ)(o:Nat)(w:ϖ),Below K u w->Below K u (w.setCells B o vs)
 | [],_,_,h=>h
 | v::r,o,w,h=>Below.setCells hK r (o+1) _ (h.setCell hK _)
theorem eC (B:Nat):∀(vs:List ϗ)(o:Nat)(w:ϖ),(w.setCells B o vs).heap.size=w
 | [],_,_=>rfl
 | v::r,o,w=>by rw[World.setCells,eC B r];simp[World.setCell]
theorem ey {P:Program} {Ki:Array Oper} {rest:List Oper} {op:Oper} {a:Act} {w:ϖ} {Q:Exit->Act->ϖ->Prop} (ty:TypeId)(x y:Operand)(B:Nat)(cs cs':Array ϗ)(t:TypeId)
  (Ns:op.guard=none) (ho:op.op=.store ty x y) (hx:a.eval x=B) (hy:a.eval y=φ cs') (hB:ah w B cs t) (MH:cs'.size=cs.size) (hi:(P.info? ty).map (·.size)=some cs'.size) (h1:cs'.all (·.oneCell')=true)
  (h:∀w',ah w' B cs' t->(∀(K:Nat) (u:ϖ),K<=B->Below K u w->Below K u w')->(∀(b:Nat) (c:Array ϗ) (s:TypeId),b≠B->ah w b c s->ah w' b c s)->w'.heap.size=w->wpList P Ki Q rest (a.put op.dst undef) w'):wpList P Ki Q (op::rest) a w:=by
 refine wpList_store_mid Ns ty x y ho B 0 cs' hx hy (λj hj=>?_) hi h1 ?_
 ·refine⟨?_,hB.frozen _⟩;rw[hB.cell,Nat.zero_add,Array.getElem?_eq_getElem ρa];rfl
 ·have hb:=ah.setCells cs'.toList 0 w cs hB;rw[sG cs cs' MH] at hb;exact ηA
theorem eG {P:Program} {Ki:Array Oper} {rest:List Oper} {op:Oper} {a:Act} {w:ϖ} {Q:Exit->Act->ϖ->Prop} (ty:TypeId)(x:Operand)(B:Nat)(cs:Array ϗ)(t:TypeId)(d:TypeDesc)
  (Ns:op.guard=none) (ho:op.op=.load ty x) (hx:a.eval x=B) (hB:ah w B cs t) (hu:P.underlying ty=some d) (hd:d.isRow=true) (hi:(P.info? ty).map (·.size)=some cs.size)
  (h:wpList P Ki Q rest (a.put op.dst (φ cs)) w):wpList P Ki Q (op::rest) a w:=by
 refine wpList_load_mid Ns ty x ho B 0 hx cs.toList d (λj v hj=>?_) hu hd τj σ1;rw[hB.cell,Nat.zero_add];simpa using hj
theorem bI {P:Program} {fn:Func} {s:Tmp} {T:TypeId} (B:Nat)(cs:Array ϗ)(t:TypeId)(d:TypeDesc)(tmps:Array ϗ)(w:ϖ)
  (h:fn.results=#[.cell s T]) (hx:tmps.getD s undef=B) (hB:ah w B cs t) (hu:P.underlying T=some d) (hd:d.isRow=true) (hi:(P.info? T).map (·.size)=some cs.size):(results fn tmps).run P w=.ok (φ cs) w:=by
 have hl:=run_loadVar_mid (P:=P) w B 0 T cs.toList d (λj v hj=>by rw[hB.cell,Nat.zero_add];simpa using hj) hu hd τj;simp only[results,h];have Uk:tmps[s]?.getD undef=ψ B:=by simpa [Array.getD_eq_getD_getElem?] using hx
 simp[Sem.run_bind,Result.andThen,Uk,asAddr,hl]
structure aG where
 pos:Int
 id:Int
deriving DecidableEq
structure az where
 key:aG
 val:aG
deriving DecidableEq
def aG.lt (a b:aG):Prop:=a.pos<b.pos\/a.pos=b.pos/\a.id<b.id
instance (a b:aG):Decidable (a.lt b):=by unfold aG.lt;infer_instance
theorem aG.lt_irrefl (a:aG):¬a.lt a:=by unfold aG.lt;omega
theorem aG.lt_trans {a b c:aG} (h:a.lt b)(g:b.lt c):a.lt c:=by unfold aG.lt at*;omega
theorem aG.lt_or (a b:aG):a.lt b\/a=b\/b.lt a:=by rcases a with ⟨p,i⟩;rcases b with ⟨q,j⟩;simp only[aG.lt,aG.mk.injEq];omega
inductive AT where
 | nil:AT
 | node (l:AT) (i:az) (r:AT):AT
namespace AT
def high:AT->Int
 | nil=>0
 | node l _ r=>1+max l.high r.high
def many:AT->Int
 | nil=>0
 | node l _ r=>1+l.many+r.many
def items:AT->List az
 | nil=>[]
 | node l i r=>l.items++i::r.items
def better (a b:az):az:=if b.val.lt a.val\/b.val=a.val/\b.key.lt a.key then b else a
def leastOf (l:Option az)(i:az)(r:Option az):az:=
 let a:=match l with|some x=>better i x|none=>i
 match r with|some x=>better a x|none=>a
def least:AT->Option az
 | nil=>none
 | node l i r=>some (leastOf l.least i r.least)
def bal (l:AT)(i:az)(r:AT):AT:=
 if r.high+1<l.high then
  match l with
  | node ll li lr=>
   if ll.high<lr.high then
    match lr with
    | node a j b=>node (node ll li a) j (node b i r)
    | nil=>node l i r
   else node ll li (node lr i r)
  | nil=>node l i r
 else if l.high+1<r.high then
  match r with
  | node rl ri rr=>
   if rr.high<rl.high then
    match rl with
    | node a j b=>node (node l i a) j (node b ri rr)
    | nil=>node l i r
   else node (node l i rl) ri rr
  | nil=>node l i r
 else node l i r
theorem items_bal (l:AT)(i:az)(r:AT):(bal l i r).items=l.items++i::r.items:=by
 unfold bal;split
 ·split
  ·split
   ·split<;>simp[items]
   ·simp[items]
  ·simp[items]
 ·split
  ·split
   ·split
    ·split<;>simp[items]
    ·simp[items]
   ·simp[items]
  ·simp[items]
def first:AT->az->az
 | nil,d=>d
 | node l i _,_=>l.first i
def ins:AT->az->AT
 | nil,x=>node nil x nil
 | node l i r,x=>if i.key=x.key then node l i r else if i.key.lt x.key then bal l i (r.ins x) else bal (l.ins x) i r
def del:AT->aG->AT
 | nil,_=>nil
 | node l i r,k=>
  if i.key=k then
   match r with
   | nil=>l
   | node rl ri rr=>bal l (rl.first ri) (del (node rl ri rr) (rl.first ri).key)
  else if i.key.lt k then bal l i (del r k) else bal (del l k) i r
def Ord (t:AT):Prop:=t.items.Pairwise (λa b=>a.key.lt b.key)
theorem ord_node {l:AT} {i:az} {r:AT}:Ord (node l i r)↔Ord l/\Ord r/\(∀x ∈ l.items,x.key.lt i.key)/\∀x ∈ r.items,i.key.lt x.key:=by
 unfold Ord;simp only[items,List.pairwise_append,List.pairwise_cons,qC];constructor
 ·rintro⟨h1,⟨h2,h3⟩,h4⟩;exact⟨h1,h3,λx hx=>h4 x hx i (Or.inl rfl),h2⟩
 ·rintro⟨h1,h3,h4,h2⟩;refine⟨h1,⟨h2,h3⟩,λx hx y hy=>?_⟩;rcases hy with rfl|hy
  ·exact h4 x hx
  ·exact aG.lt_trans (h4 x hx) (h2 y hy)
theorem vy {l:AT} {i:az} {r:AT}:Ord (bal l i r)↔Ord (node l i r):=by unfold Ord;rw[items_bal];rfl
theorem mem_ins (t:AT)(x:az)(h:∀y ∈ t.items,y.key≠x.key):∀y,y ∈ (t.ins x).items↔y=x\/y ∈ t.items:=by
 induction t with
 | nil=>intro y;simp[ins,items]
 | node l i r hl hr=>
  have h0:i.key≠x.key:=h i (by simp[items]);have h1:=hl (λy hy=>h y (by simp[items,hy]));have h2:=hr (λy hy=>h y (by simp[items,hy]));intro y;simp only[ins,qI h0];split
  ·rw[items_bal];simp only[items,qM,qC,h2];grind
  ·rw[items_bal];simp only[items,qM,qC,h1];grind
theorem ord_ins (t:AT)(x:az)(o:Ord t)(h:∀y ∈ t.items,y.key≠x.key):Ord (t.ins x):=by
 induction t with
 | nil=>simp[ins,Ord,items]
 | node l i r hl hr=>
  have h0:i.key≠x.key:=h i (by simp[items]);have g1:∀y ∈ l.items,y.key≠x.key:=λy hy=>h y (by simp[items,hy]);have g2:∀y ∈ r.items,y.key≠x.key:=λy hy=>h y (by simp[items,hy]);obtain⟨o1,o2,o3,o4⟩:=ord_node.1 o;simp only[ins,qI h0];split
  next Ku=>
   rw[vy,ord_node];refine⟨o1,hr o2 g2,o3,λy hy=>?_⟩;rcases(mem_ins r x g2 y).1 hy with rfl|hy
   ·exact Ku
   ·exact o4 y hy
  next Ku=>
   rw[vy,ord_node];refine⟨hl o1 g1,o2,λy hy=>?_,o4⟩;rcases(mem_ins l x g1 y).1 hy with rfl|hy
   ·rcases aG.lt_or i.key y.key with q|q|q
    ·exact ax q Ku
    ·exact ax q h0
    ·exact q
   ·exact o3 y hy
theorem rf (t:AT):∀d,(t.items=[]/\t.first d=d)\/∃l,t.items=t.first d::l:=by
 induction t with
 | nil=>intro d;exact Or.inl ⟨rfl,rfl⟩
 | node l i r hl hr=>
  intro d;right;rcases hl i with ⟨e,f⟩|⟨z,e⟩
  ·exact⟨r.items,by simp[items,first,e,f]⟩
  ·exact⟨z++i::r.items,by simp only[items,first];rw[e];simp⟩
theorem first_node (l:AT)(i:az)(r:AT):∃z,(node l i r).items=l.first i::z:=by
 rcases rf l i with ⟨e,f⟩|⟨z,e⟩
 ·exact⟨r.items,by simp[items,e,f]⟩
 ·exact⟨z++i::r.items,by simp only[items];rw[e];simp⟩
theorem cH (L:List az)(k:aG)(h:∀y ∈ L,y.key≠k):L.filter (λy=>decide (y.key≠k))=L:=
 List.filter_eq_self.2 (λy hy=>by simpa using h y hy)
theorem del_items (t:AT):∀k,Ord t->(∃y ∈ t.items,y.key=k)->(t.del k).items=t.items.filter (λy=>decide (y.key≠k)):=by
 induction t with
 | nil=>intro k _ h;simp[items] at h
 | node l i r hl hr=>
  intro k o h;obtain⟨o1,o2,o3,o4⟩:=ord_node.1 o;unfold del;split
  next e=>
   have kl:∀y ∈ l.items,y.key≠k:=λy hy q=>aG.lt_irrefl k (by have:=o3 y hy;rw[q,e] at this;exact this);have kr:∀y ∈ r.items,y.key≠k:=λy hy q=>aG.lt_irrefl k (by have:=o4 y hy;rw[q,e] at this;exact this);split
   ·simp[items,e,cH l.items k kl];exact(by simpa using cH l.items k kl:List.filter (λy=>!decide (y.key=k)) l.items=l.items).symm
   ·rename_i rl ri rr;rw[items_bal];obtain⟨z,hz⟩:=first_node rl ri rr;rw[hr _ o2 ⟨rl.first ri,by rw[hz];simp,rfl⟩];unfold Ord at o2;rw[hz] at o2;have o6:∀y ∈ z,y.key≠(rl.first ri).key:=λy hy q=>by
     have:=(List.pairwise_cons.1 o2).1 y hy;rw[q] at this;exact aG.lt_irrefl _ this
    have e5:(node l i (node rl ri rr)).items=l.items++i::(node rl ri rr).items:=rfl;rw[e5,List.filter_append,cH _ _ kl,List.filter_cons,qI (by simp[e]),cH _ _ kr,hz,List.filter_cons,qI ρp,cH _ _ o6]
  next e=>
   have e5:(node l i r).items=l.items++i::r.items:=rfl;split
   next Ku=>
    have kl:∀y ∈ l.items,y.key≠k:=λy hy q=>by have:=o3 y hy;rw[q] at this;exact aG.lt_irrefl _ (aG.lt_trans this Ku)
    rw[items_bal,hr k o2 (by
     obtain⟨y,hy,q⟩:=h;rw[e5] at hy;simp only[qM,qC] at hy;rcases hy with hy|rfl|hy
     ·exact ax q (kl y hy)
     ·exact ax q e
     ·exact⟨y,hy,q⟩)]
    rw[e5,List.filter_append,cH _ _ kl,List.filter_cons,qP (by simp[e])]
   next Ku=>
    have hgt:k.lt i.key:=by
     rcases aG.lt_or i.key k with q|q|q
     ·exact ax q Ku
     ·exact ax q e
     ·exact q
    have kr:∀y ∈ r.items,y.key≠k:=λy hy q=>by have:=o4 y hy;rw[q] at this;exact aG.lt_irrefl _ (aG.lt_trans this hgt)
    rw[items_bal,hl k o1 (by
     obtain⟨y,hy,q⟩:=h;rw[e5] at hy;simp only[qM,qC] at hy;rcases hy with hy|rfl|hy
     ·exact⟨y,hy,q⟩
     ·exact ax q e
     ·exact ax q (kr y hy))]
    rw[e5,List.filter_append,List.filter_cons,qP (by simp[e]),cH _ _ kr]
theorem ord_del (t:AT)(k:aG)(o:Ord t)(h:∃y ∈ t.items,y.key=k):Ord (t.del k):=by unfold Ord;rw[del_items t k o h];exact List.Pairwise.filter _ o
def NoB (b a:az):Prop:=¬(b.val.lt a.val\/b.val=a.val/\b.key.lt a.key)
theorem yE (a:az):NoB a a:=by unfold NoB;intro h;rcases h with h|⟨_,h⟩<;>exact aG.lt_irrefl _ h
theorem nY {a b c:az} (h:NoB c b)(g:NoB b a):NoB c a:=by rcases a with ⟨⟨a1,a2⟩,⟨a3,a4⟩⟩;rcases b with ⟨⟨b1,b2⟩,⟨b3,b4⟩⟩;rcases c with ⟨⟨c1,c2⟩,⟨c3,c4⟩⟩;simp only[NoB,aG.lt,aG.mk.injEq] at*;omega
theorem wd (a b:az):better a b=a\/better a b=b:=by unfold better;split<;>simp
theorem yD (a b:az):NoB a (better a b):=ηs
theorem wQ (a b:az):NoB b (better a b):=ηs
def jU (S:az->Prop)(o:Option az):Prop:=match o with
 | none=>∀y,¬S y
 | some x=>S x/\∀y,S y->NoB y x
def takeO (a b:Option az):Option az:=match a,b with
 | none,b=>b
 | some x,none=>some x
 | some x,some y=>some (better x y)
theorem iT {S T:az->Prop} {a b:Option az} (h:jU S a)(g:jU T b):jU (λy=>S y\/T y) (takeO a b):=by
 cases a with
 | none=>
  cases b with
  | none=>exact λy hy=>hy.elim (h y) (g y)
  | some y=>exact⟨Or.inr g.1,λz hz=>hz.elim (λq=>ax q (h z)) (g.2 z)⟩
 | some x=>
  cases b with
  | none=>exact⟨Or.inl h.1,λz hz=>hz.elim (h.2 z) (λq=>ax q (g z))⟩
  | some y=>
   refine⟨?_,λz hz=>?_⟩
   ·rcases wd x y with q|q<;>simp only[q]
    ·exact Or.inl h.1
    ·exact Or.inr g.1
   ·rcases hz with hz|hz
    ·exact nY (h.2 z hz) (yD x y)
    ·exact nY (g.2 z hz) (wQ x y)
theorem qj (x:az):jU (λy=>y=x) (some x):=⟨rfl,λy hy=>by rw[hy];exact yE x⟩
theorem jU.iff {S T:az->Prop} {o:Option az} (h:jU S o)(e:∀y,S y↔T y):jU T o:=by have:S=T:=funext λy=>propext (e y);rw[<- this];exact h
theorem tU (l:AT)(i:az)(r:AT):(node l i r).least=takeO (takeO (some i) l.least) r.least:=by simp only[least,leastOf];cases l.least<;>cases r.least<;>rfl
theorem lU (t:AT):jU (λy=>y ∈ t.items) t.least:=by
 induction t with
 | nil=>intro y;simp[items]
 | node l i r hl hr=>rw[tU];refine(iT (iT (qj i) hl) hr).iff λy=>?_;simp only[items,qM,qC];grind
def belowAcc:AT->Int->Option az->Option az
 | nil,_,acc=>acc
 | node l i r,p,acc=>if p<i.key.pos then belowAcc l p acc else belowAcc r p (takeO (takeO acc (some i)) l.least)
theorem tz (t:AT)(p:Int)(o:Ord t):∀{S:az->Prop} {acc:Option az},jU S acc->jU (λy=>S y\/y ∈ t.items/\y.key.pos<=p) (t.belowAcc p acc):=by
 induction t with
 | nil=>intro S acc h;exact h.iff (λy=>by simp[items])
 | node l i r hl hr=>
  intro S acc h;obtain⟨o1,o2,o3,o4⟩:=ord_node.1 o;have e5:(node l i r).items=l.items++i::r.items:=rfl;unfold belowAcc;split
  next hp=>
   refine(hl o1 h).iff λy=>?_;rw[e5];simp only[qM,qC];have:∀y ∈ r.items,p<y.key.pos:=λy hy=>by have:=o4 y hy;unfold aG.lt at this;omega
   constructor
   ·rintro(q|⟨q,g⟩)
    ·exact Or.inl q
    ·exact Or.inr ⟨Or.inl q,g⟩
   ·rintro(q|⟨q|rfl|q,g⟩)
    ·exact Or.inl q
    ·exact Or.inr ⟨q,g⟩
    ·omega
    ·have:=this y q;omega
  next hp=>
   refine(hr o2 (iT (iT h (qj i)) (lU l))).iff λy=>?_;rw[e5];simp only[qM,qC];have:∀y ∈ l.items,y.key.pos<=p:=λy hy=>by have:=o3 y hy;unfold aG.lt at this;omega
   constructor
   ·rintro(((q|rfl)|q)|⟨q,g⟩)
    ·exact Or.inl q
    ·exact Or.inr ⟨Or.inr (Or.inl rfl),by omega⟩
    ·exact Or.inr ⟨Or.inl q,this y q⟩
    ·exact Or.inr ⟨Or.inr (Or.inr q),g⟩
   ·rintro(q|⟨q|rfl|q,g⟩)
    ·exact Or.inl (Or.inl (Or.inl q))
    ·exact Or.inl (Or.inr q)
    ·exact Or.inl (Or.inl (Or.inr rfl))
    ·exact Or.inr ⟨q,g⟩
def bestTo (t:AT)(p:Int):Option az:=t.belowAcc p none
theorem best_bestTo (t:AT)(p:Int)(o:Ord t):jU (λy=>y ∈ t.items/\y.key.pos<=p) (t.bestTo p):=
 (tz t p o (S:=λ_=>False) (acc:=none) (λ_ h=>h)).iff (λy=>by simp)
def hasAt (t:AT)(p:Int):Bool:=match t.least with|none=>false|some x=>decide (x.val.pos<=p)
theorem hasAt_iff (t:AT)(p:Int):t.hasAt p=true↔∃y ∈ t.items,y.val.pos<=p:=by
 have h:=lU t;unfold hasAt;cases e:t.least with
 | none=>rw[e] at h;simp only[jU] at h;simp;intro y hy;exact ax hy (h y)
 | some x=>rw[e] at h;simp only[jU] at h;simp only[decide_eq_true_eq];refine⟨λq=>⟨x,h.1,q⟩,λ⟨y,hy,q⟩=>?_⟩;have:=h.2 y hy;simp only[NoB,aG.lt] at this;omega
def firstAt:AT->Int->Option az
 | nil,_=>none
 | node l i r,p=>if l.hasAt p then l.firstAt p else if i.val.pos<=p then some i else r.firstAt p
def AX (t:AT)(p:Int)(f:Option az):Prop:=match f with
 | none=>∀y ∈ t.items,p<y.val.pos
 | some x=>x ∈ t.items/\x.val.pos<=p/\∀y ∈ t.items,y.val.pos<=p->¬y.key.lt x.key
theorem firstAt_spec (t:AT)(p:Int)(o:Ord t):AX t p (t.firstAt p):=by
 induction t with
 | nil=>intro y hy;simp[items] at hy
 | node l i r hl hr=>
  obtain⟨o1,o2,o3,o4⟩:=ord_node.1 o;have e5:(node l i r).items=l.items++i::r.items:=rfl;unfold firstAt;by_cases hh:l.hasAt p=true
  ·rw[qP hh];have hl:=hl o1;obtain⟨y,hy,q⟩:=(hasAt_iff l p).1 hh;cases e:l.firstAt p with
   | none=>rw[e] at hl;have:=hl y hy;omega
   | some x=>
    rw[e] at hl;refine⟨by rw[e5];simp[hl.1],hl.2.1,λz hz g=>?_⟩;rw[e5] at hz;simp only[qM,qC] at hz;rcases hz with hz|rfl|hz
    ·exact hl.2.2 z hz g
    ·have:=o3 x hl.1;unfold aG.lt at*;omega
    ·have:=o3 x hl.1;have:=o4 z hz;unfold aG.lt at*;omega
  ·rw[qI hh];have no:∀y ∈ l.items,p<y.val.pos:=λy hy=>by
    rcases Int.lt_or_le p y.val.pos with q|q
    ·exact q
    ·exact ax ((hasAt_iff l p).2 ⟨y,hy,q⟩) hh
   by_cases hi:i.val.pos<=p
   ·rw[qP hi];refine⟨by rw[e5];simp,hi,λz hz g=>?_⟩;rw[e5] at hz;simp only[qM,qC] at hz;rcases hz with hz|rfl|hz
    ·have:=no z hz;omega
    ·exact aG.lt_irrefl _
    ·have:=o4 z hz;unfold aG.lt at*;omega
   ·rw[qI hi];have hr:=hr o2;cases e:r.firstAt p with
    | none=>
     rw[e] at hr;intro z hz;rw[e5] at hz;simp only[qM,qC] at hz;rcases hz with hz|rfl|hz
     ·exact no z hz
     ·omega
     ·exact hr z hz
    | some x=>
     rw[e] at hr;refine⟨by rw[e5];simp[hr.1],hr.2.1,λz hz g=>?_⟩;rw[e5] at hz;simp only[qM,qC] at hz;rcases hz with hz|rfl|hz
     ·have:=no z hz;omega
     ·omega
     ·exact hr.2.2 z hz g
theorem many_items (t:AT):t.many=t.items.length:=by
 induction t with
 | nil=>rfl
 | node l i r hl hr=>simp only[many,items,qL,mD,hl,hr];omega
theorem high_nonneg (t:AT):0<=t.high:=by
 induction t with
 | nil=>simp[high]
 | node l i r hl hr=>simp only[high];omega
theorem high_le (t:AT):t.high<=t.many:=by
 induction t with
 | nil=>simp[high,many]
 | node l i r hl hr=>have:=many_items l;have:=many_items r;simp only[high,many];omega
end AT
abbrev rk (k:aG):ϗ:=φ #[ι υ k.pos,ι ε k.id]
theorem zI (d:Nat)(a b:aG)(v:ϖ):(Op.equalIn (d+2) 333 (rk a) (rk b)).run Ψ v=.ok (decide (a=b)) v:=by
 have hu:∀w,(isAgg 39).run Ψ w=.ok false w:=λ_=>by kernel_rfl
 have hu2:∀w,(isAgg 3).run Ψ w=.ok false w:=λ_=>by kernel_rfl
 have h2:∀(w:ϖ) (x y:Int),(Op.equalIn (d+1) 39 x y).run Ψ w=.ok (x==y) w:=λw x y=>run_equalIn_int _ _ _ _ _ _ _ Ξ;have h3:∀(w:ϖ) (x y:Int),(Op.equalIn (d+1) 3 (ι ε x) (ι ε y)).run Ψ w=.ok (x==y) w:=λw x y=>run_equalIn_int _ _ _ _ _ _ _ Θ;have hs:∀w,(sizeOf 39).run Ψ w=.ok 1 w:=λ_=>by kernel_rfl
 have K6:∀w,(sizeOf 3).run Ψ w=.ok 1 w:=λ_=>by kernel_rfl
 rw[run_equalIn_struct _ (d+1) 333 _ _ ρi ρi];have e:(a.pos==b.pos && a.id==b.id)=decide (a=b):=by rw[Bool.eq_iff_iff];rcases a with ⟨a1,a2⟩;rcases b with ⟨b1,b2⟩;simp
 rw[<- e];simp[Program.fieldsOf,Tryz.underlying333,go_sem,part,hu,hu2,hs,K6,h2,h3];by_cases h1:a.pos=b.pos<;>by_cases h4:a.id=b.id<;>simp[h1,h4]
theorem zH (a b:aG)(c:Bool)(hc:decide (a=b)=c)(v:ϖ):(binOp .eql 333 (rk a) (rk b)).run Ψ v=.ok (β c) v:=by rw[run_eql_struct,<- hc];have:=zI 9998 a b v;rw[show (Op.equalIn 10000 333 (rk a) (rk b)).run Ψ v=.ok (decide (a=b)) v from this];rfl
def nr (a b:aG):Int:=if a=b then 0 else if a.lt b then -1 else 1
theorem i5 (a b:aG)(c:Int)(w:ϖ)(hc:nr a b=c):CB 277 #[rk a,rk b] w (ι ε c):=by
 subst hc;unfold nr;by_cases h:a=b
 ·rw[qP h];have e0:=zH a b true (qT h);clear h;exact ξV
 ·rw[qI h];have e0:=zH a b false (qF h);have hl:a.lt b↔a.pos<b.pos\/a.pos=b.pos/\a.id<b.id:=Iff.rfl;by_cases h1:a.pos<b.pos
  ·rw[qP (hl.2 (.inl h1))];have d1:=qT h1;clear h hl h1;exact ξV
  ·have d1:=qF h1;by_cases h2:a.pos=b.pos
   ·have d2:(a.pos==b.pos)=true:=beq_iff_eq.2 h2;by_cases h3:a.id<b.id
    ·rw[qP (hl.2 (.inr ⟨h2,h3⟩))];have d3:=qT h3;clear h hl h1 h2 h3;exact ξV
    ·rw[qI (λq=>by rcases hl.1 q with q|q<;>omega)];have d3:=qF h3;clear h hl h1 h2 h3;exact ξV
   ·rw[qI (λq=>by rcases hl.1 q with q|q<;>omega)];have d2:(a.pos==b.pos)=false:=qN.2 h2;clear h hl h1 h2;exact ξV
section
variable {H:Type} {P:Program} {w:ϖ} {base:Nat} {Lb:Nat->Bool} {LG:Bool} {enc:TypeId × ϗ->H}
end
abbrev ik (k:Int):ϗ:=ι ε k
def lk (k:Int):List (Int × ϗ)->Option ϗ
 | []=>none
 | (j,v)::r=>if k=j then some v else lk k r
def dN (k:Int)(v:ϗ):List (Int × ϗ)->List (Int × ϗ)
 | []=>[(k,v)]
 | (j,u)::r=>if k=j then (k,v)::r else (j,u)::dN k v r
def dL (k:Int)(L:List (Int × ϗ)):List (Int × ϗ):=L.filter (λp=>decide (p.1≠k))
def gX (es:List MapEntry)(L:List (Int × ϗ)):Prop:=es.map (λe=>(e.key,e.val))=L.map (λp=>(ik p.1,p.2))
def aB (w:ϖ)(M:Nat)(L:List (Int × ϗ)):Prop:=∃(es:Array MapEntry)(KE:Nat),w.heap[M]?=some (.map es KE)/\gX es.toList L/\MapKept.Stamped es KE
theorem aB.of_eq {w v:ϖ} {M:Nat} {L:List (Int × ϗ)} (h:aB w M L)(e:v.heap[M]?=w.heap[M]?):aB v M L:=by obtain⟨es,c,hb,hs⟩:=h;exact⟨es,c,e.trans hb,hs⟩
theorem aB.size {w:ϖ} {M:Nat} {L:List (Int × ϗ)} (h:aB w M L):M<w:=by obtain⟨es,c,hb,_⟩:=h;exact(Array.getElem?_eq_some_iff.1 hb).1
theorem aB.below {w v:ϖ} {M:Nat} {L:List (Int × ϗ)} (h:aB w M L)(hb:Below w w v):aB v M L:=h.of_eq (hb.block M h.size)
instance {w M L}:Mv (aB w M L) w (λv'=>aB v' M L):=⟨λk h=>aB.below h k⟩
theorem aB.ko {w v:ϖ} {F:Nat->Prop} {M:Nat} {L:List (Int × ϗ)} (h:aB w M L)(k:KO F w v)(hF:¬F M):aB v M L:=h.of_eq (k.block M h.size hF)
theorem sB {es:List MapEntry} {L:List (Int × ϗ)} (h:gX es L)(i:Nat):es[i]?.map (λe=>(e.key,e.val))=L[i]?.map (λp=>(ik p.1,p.2)):=by have:=qG (λl=>l[i]?) h;simpa [List.getElem?_map] using this
theorem xj {e:MapEntry} {es:List MapEntry} {L:List (Int × ϗ)} (h:gX (e::es) L):∃p R,L=p::R/\e.key=ik p.1/\e.val=p.2/\gX es R:=by
 cases L with
 | nil=>simp[gX] at h
 | cons p R=>simp only[gX,eJ,List.cons.injEq,Prod.mk.injEq] at h;exact⟨p,R,rfl,h.1.1,h.1.2,h.2⟩
def eE (k:Int):List (Int × ϗ)->Nat->Option (Nat × ϗ)
 | [],_=>none
 | (j,v)::r,i=>if k=j then some (i,v) else eE k r (i+1)
theorem iX (k:Int):∀(L:List (Int × ϗ))(es:List MapEntry)(i:Nat),gX es L->Instr.findNow (.int .i64) (ik k) es i=some (eE k L i)
 | [],es,i,h=>by
  have:es=[]:=by unfold gX at h;simpa using h
  subst this;rfl
 | p::L,es,i,h=>by
  cases es with
  | nil=>simp[gX] at h
  | cons e es=>
   obtain⟨q,R,hq,hk,hv,hs⟩:=xj h;cases hq
   have ih:=iX k L es (i+1) hs;obtain⟨j,v⟩:=p;simp only at hk hv;unfold Instr.findNow eE;rw[hk];by_cases e1:k=j
   ·simp[Instr.sameNow,e1,hv]
   ·have:(k==j)=false:=by simpa using e1
    simp[Instr.sameNow,this,e1,ih]
theorem q9 (k:Int):∀(L:List (Int × ϗ))(i:Nat),(eE k L i).map (·.2)=lk k L
 | [],_=>rfl
 | (j,v)::r,i=>by unfold eE lk;split<;>simp[q9 k r (i+1)]
theorem gL (k:Int):∀(L:List (Int × ϗ))(i:Nat),eE k L i=none↔lk k L=none
 | [],_=>by simp[eE,lk]
 | (j,v)::r,i=>by unfold eE lk;split<;>simp[gL k r (i+1)]
theorem gM (k:Int):∀(L:List (Int × ϗ))(j i:Nat)(v:ϗ),eE k L j=some (i,v)->∃n,i=j+n/\L[n]?=some (k,v)
 | [],j,i,v,h=>by simp[eE] at h
 | (q,u)::r,j,i,v,h=>by
  unfold eE at h;by_cases e:k=q
  ·rw[qP e] at h;simp at h;obtain⟨rfl,rfl⟩:=h;exact⟨0,rfl,by simp[e]⟩
  ·rw[qI e] at h;obtain⟨n,h1,h2⟩:=gM k r (j+1) i v h;exact⟨n+1,by omega,by simpa using h2⟩
theorem vB (k:Int)(v:ϗ):∀(L:List (Int × ϗ)),lk k L=none->dN k v L=L++[(k,v)]
 | [],_=>rfl
 | (j,u)::r,h=>by
  unfold lk at h;by_cases e:k=j
  ·rw[qP e] at h;cases h
  ·rw[qI e] at h;unfold dN;rw[qI e,vB k v r h];rfl
theorem vC (k:Int)(v:ϗ):∀(L:List (Int × ϗ))(j i:Nat)(u:ϗ),eE k L j=some (i,u)->dN k v L=L.set (i - j) (k,v)
 | [],j,i,u,h=>by simp[eE] at h
 | (q,x)::r,j,i,u,h=>by
  unfold eE at h;by_cases e:k=q
  ·rw[qP e] at h;simp at h;obtain⟨rfl,_⟩:=h;unfold dN;rw[qP e,Nat.sub_self];rfl
  ·rw[qI e] at h;obtain⟨n,h1,_⟩:=gM k r (j+1) i u h;have:=vC k v r (j+1) i u h;unfold dN;rw[qI e,this];rw[show i - j=(i - (j+1))+1 by omega];rfl
theorem fq (k j:Int)(v:ϗ):∀(L:List (Int × ϗ)),lk j (dN k v L)=if j=k then some v else lk j L
 | []=>by unfold dN lk;split<;>simp[lk]
 | (q,u)::r=>by
  unfold dN;by_cases e:k=q
  ·rw[qP e];subst e;unfold lk;split<;>simp_all
  ·rw[qI e];unfold lk;rw[fq k j v r];by_cases h1:j=q
   ·rw[qP h1,qP h1,qI (by intro h;exact e (h.symm.trans h1))]
   ·rw[qI h1,qI h1]
theorem jk (k j:Int):∀(L:List (Int × ϗ)),lk j (dL k L)=if j=k then none else lk j L
 | []=>by simp[dL,lk]
 | (q,u)::r=>by
  have ih:=jk k j r;unfold dL at*;by_cases e:q=k
  ·rw[List.filter_cons,qI (by simp[e]),ih];by_cases h1:j=k
   ·simp[h1]
   ·rw[qI h1,qI h1];conv=>rhs;unfold lk;rw[qI (by rw[e];exact h1)]
  ·rw[List.filter_cons,qP (by simp[e])];unfold lk;rw[ih];by_cases h1:j=q
   ·rw[qP h1,qP h1,qI (by rw[h1];exact e)]
   ·rw[qI h1,qI h1]
theorem yz {k:Int} {v:ϗ}:∀{L:List (Int × ϗ)},(L.map (·.1)).Nodup->(k,v) ∈ L->lk k L=some v
 | [],_,h=>by simp at h
 | (j,u)::r,hn,h=>by
  simp only[eJ,qD] at hn;unfold lk;rcases qC.1 h with h|h
  ·cases h;rw[qP rfl]
  ·rw[qI (λe=>hn.1 (by rw[<- e];exact List.mem_map.2 ⟨_,h,rfl⟩))];exact yz hn.2 h
theorem oF {es:List MapEntry} {L:List (Int × ϗ)} (h:gX es L):es.map (·.key)=L.map (λp=>ik p.1):=by have:=qG (List.map Prod.fst) h;rw[List.map_map,List.map_map] at this;exact this
theorem aB.nodup {w:ϖ} {M:Nat} {L:List (Int × ϗ)} (h:aB w M L):(L.map (·.1)).Nodup:=by obtain⟨es,c,hb,hs,_,_,hk⟩:=h;rw[oF hs] at hk;have:(L.map λp=>ik p.1)=(L.map (·.1)).map ik:=ρp;rw[this] at hk;unfold List.Nodup at*;rw[List.pairwise_map] at hk;exact hk.imp (λq e=>q (by rw[e]))
section
theorem am {P:Program} {T K E:TypeId} (hT:P.underlying T=some (.map K E))(hK:P.underlying K=some (.int .i64)) {w:ϖ} {M:Nat} {L:List (Int × ϗ)} (h:aB w M L)(k:Int) {z:ϗ} (hz:∀v,(zeroValue E).run P v=.ok z v):
  (Instr.lookup T (.map (some M)) (ik k) true).run P w=.ok (χ #[(lk k L).getD z,β (lk k L).isSome]) w/\(Instr.lookup T (.map (some M)) (ik k) false).run P w=.ok ((lk k L).getD z) w:=by
 obtain⟨es,KE,hb,hs,_⟩:=h;have hf:=iX k L es.toList 0 hs;have hl:=q9 k L 0;refine δX ?_;intro hc;constructor
 all_goals
  unfold Instr.lookup;simp only[Sem.run_bind,run_underlying hT,Result.andThen,MapKept.run_getObj_map hb,Sem.run_pure,hc,MapKept.run_findKey hK hf];cases hq:eE k L 0 with
  | none=>rw[hq] at hl;simp[<- hl,hz,Result.andThen]
  | some p=>rw[hq] at hl;simp[<- hl,Result.andThen]
theorem bv {P:Program} {T K E:TypeId} (hT:P.underlying T=some (.map K E))(hK:P.underlying K=some (.int .i64)) {w:ϖ} {M:Nat} {L:List (Int × ϗ)} (h:aB w M L)(k:Int)(v:ϗ):∃w',(Instr.mapUpdate T (.map (some M)) (ik k) v).run P w=.ok () w'/\aB w' M (dN k v L)/\KO (λx=>x=M) w w'/\w'.heap.size=w:=by
 obtain⟨es,KE,hb,hs,LS⟩:=h;have hf:=iX k L es.toList 0 hs;refine δX ?_;intro hc;have Oc:∀o,∃w':ϖ,(setObj M o).run P w=.ok () w'/\w'.heap[M]?=some o/\KO (λx=>x=M) w w'/\w'.heap.size=w:=λo=>
  ⟨_,MapKept.run_setObj_map o hb,(MapKept.heap_set hb).1,⟨rfl,rfl,rfl,by simp,λi _ hi=>(MapKept.heap_set hb).2 i hi⟩,by simp⟩
 cases hq:eE k L 0 with
 | none=>
  obtain⟨w',h1,h2,h3,h4⟩:=Oc (.map (es.push {key:=ik k,val:=v,born:=KE}) (KE+1));refine⟨w',by simp[Instr.mapUpdate,run_underlying hT,MapKept.run_getObj_map hb,hc,MapKept.run_findKey hK hf,hq,h1,Result.andThen],⟨_,_,h2,?_,?_⟩,h3,h4⟩
  ·rw[vB k v L ((gL k L 0).1 hq)];unfold gX at*;simp[hs]
  ·refine MapKept.stamped_push LS (λx hx e=>?_);have:x.key ∈ es.toList.map (·.key):=List.mem_map.2 ⟨x,hx,rfl⟩;rw[oF hs,e] at this;obtain⟨p,hp,he⟩:=List.mem_map.1 this;have hk:p.1=k:=by simpa using he
   have hn:=(gL k L 0).1 hq;have:∀(R:List (Int × ϗ)),p ∈ R->lk k R≠none:=by
    intro R
    induction R with
    | nil=>simp
    | cons q R ih=>
     obtain⟨j,u⟩:=q;intro hm;unfold lk;split
     ·simp
     ·rename_i KI;rcases qC.1 hm with rfl|hm
      ·exact ax hk.symm KI
      ·exact ih hm
   exact this L hp hn
 | some q=>
  obtain⟨i,u⟩:=q;obtain⟨n,hn,hi⟩:=gM k L 0 i u hq;obtain rfl:i=n:=ρa;have XE:=sB hs i;rw[hi] at XE;obtain⟨e,he,hek⟩:∃e,es[i]?=some e/\e.key=ik k:=by
   cases MQ:es[i]? with
   | none=>rw[Array.getElem?_toList,MQ] at XE;simp at XE
   | some e=>rw[Array.getElem?_toList,MQ] at XE;simp at XE;exact⟨e,rfl,XE.1⟩
  obtain⟨w',h1,h2,h3,h4⟩:=Oc (.map (es.modify i λe=>{e with key:=ik k,val:=v}) KE);refine⟨w',?_,⟨_,_,h2,?_,?_⟩,h3,h4⟩
  ·have hst':=MapKept.run_keyThatStays (P:=P) (w:=w) (d:=.int .i64) (k:=ik k) ρs;simp[Instr.mapUpdate,run_underlying hT,MapKept.run_getObj_map hb,hc,MapKept.run_findKey hK hf,hq,he,hek,hst',h1,Result.andThen]
  ·rw[vC k v L 0 i u hq,Nat.sub_zero];unfold gX;apply List.ext_getElem?;intro j;rw[List.getElem?_map,List.getElem?_map,Array.getElem?_toList,Array.getElem?_modify,List.getElem?_set];by_cases hij:i=j
   ·subst hij;have hil:i<L.length:=(List.getElem?_eq_some_iff.1 hi).1;rw[qP rfl,qP rfl,qP hil,he];simp
   ·rw[qI hij,qI hij,<- Array.getElem?_toList];exact sB hs j
  ·exact MapKept.stamped_modify LS i _ (λ_ _=>rfl) (λe' _ he'=>by rw[he] at he';cases he';exact hek.symm)
theorem gW {P:Program} {T K E:TypeId} (hT:P.underlying T=some (.map K E))(hK:P.underlying K=some (.int .i64)) {w:ϖ} {M:Nat} {L:List (Int × ϗ)} (h:aB w M L)(k:Int):∃w',(∀ty,(Builtin.delete_ #[T,K] ty #[.map (some M),ik k]).run P w=.ok (χ #[]) w')/\aB w' M (dL k L)/\KO (λx=>x=M) w w'/\w'.heap.size=w:=by
 have Ob:=h.nodup;obtain⟨es,KE,hb,hs,LS⟩:=h;have hf:=iX k L es.toList 0 hs;refine δX ?_;intro hc;have Oc:∀o,∃w':ϖ,(setObj M o).run P w=.ok () w'/\w'.heap[M]?=some o/\KO (λx=>x=M) w w'/\w'.heap.size=w:=λo=>
  ⟨_,MapKept.run_setObj_map o hb,(MapKept.heap_set hb).1,⟨rfl,rfl,rfl,by simp,λi _ hi=>(MapKept.heap_set hb).2 i hi⟩,by simp⟩
 cases hq:eE k L 0 with
 | none=>
  obtain⟨w',h1,h2,h3,h4⟩:=Oc (.map es KE);refine⟨w',λty=>by simp[Builtin.delete_,run_underlying hT,MapKept.run_getObj_map hb,hc,MapKept.run_findKey hK hf,hq,h1,Result.andThen],⟨_,_,h2,?_,LS⟩,h3,h4⟩;have:dL k L=L:=List.filter_eq_self.2 (λp hp=>by
   have hn:=(gL k L 0).1 hq;have:p.1≠k:=λe=>by have:=yz Ob (show (k,p.2) ∈ L by rw[<- e];exact hp);rw[hn] at this;cases this
   simpa using this)
  rw[this];exact hs
 | some q=>
  obtain⟨i,u⟩:=q;obtain⟨n,hn,hi⟩:=gM k L 0 i u hq;obtain rfl:i=n:=ρa;obtain⟨w',h1,h2,h3,h4⟩:=Oc (.map (es.eraseIdxIfInBounds i) KE);refine⟨w',λty=>by simp[Builtin.delete_,run_underlying hT,MapKept.run_getObj_map hb,hc,MapKept.run_findKey hK hf,hq,h1,Result.andThen],⟨_,_,h2,?_,MapKept.stamped_erase LS i⟩,h3,h4⟩;have hil:i<L.length:=(List.getElem?_eq_some_iff.1 hi).1;have KC:es.size=L.length:=by have:=qG List.length hs;simpa using this
  have Rp:dL k L=L.eraseIdx i:=by
   unfold dL;have Uh:L=L.take i++(k,u)::L.drop (i+1):=by
    have:L.drop i=(k,u)::L.drop (i+1):=by rw[List.drop_eq_getElem_cons hil];congr 1;exact Option.some.inj ((List.getElem?_eq_getElem hil).symm.trans hi)
    rw[<- this,List.take_append_drop]
   have hnd':((L.take i++(k,u)::L.drop (i+1)).map (·.1)).Nodup:=by rw[<- Uh];exact Ob
   simp only[List.map_append,eJ] at hnd';obtain⟨n1,n2,n3⟩:=List.nodup_append.1 hnd';have n4:=qD.1 n2;rw[List.eraseIdx_eq_take_drop_succ]
   conv=>lhs;rw[Uh]
   rw[List.filter_append,List.filter_cons,qI ρp]
   congr 1
   ·exact List.filter_eq_self.2 (λp hp=>by have:=n3 _ (List.mem_map.2 ⟨p,hp,rfl⟩) k (List.mem_cons_self ..);simpa using this)
   ·exact List.filter_eq_self.2 (λp hp=>by have:p.1≠k:=λe=>n4.1 (by rw[<- e];exact List.mem_map.2 ⟨p,hp,rfl⟩);simpa using this)
  rw[Rp];unfold Array.eraseIdxIfInBounds;rw[dif_pos ρa];unfold gX at*;rw[Array.toList_eraseIdx];simp only[List.eraseIdx_eq_take_drop_succ,List.map_append,List.map_take,List.map_drop,hs]
end
theorem aT {P:Program} {T K E:TypeId} (hT:P.underlying T=some (.map K E)) {w:ϖ} {M:Nat} {L:List (Int × ϗ)} (h:aB w M L)(ty:TypeId):(Builtin.len_ #[T] ty #[.map (some M)]).run P w=.ok (ι ε L.length) w:=by
 obtain⟨es,KE,hb,hs,_⟩:=h;have:es.size=L.length:=by have:=qG List.length hs;simpa using this
 simp[Builtin.len_,run_underlying hT,MapKept.run_getObj_map hb,Result.andThen,go_sem,this]
theorem kU {P:Program} {T K E:TypeId} (hT:P.underlying T=some (.map K E))(w:ϖ)(ty:TypeId):(Builtin.len_ #[T] ty #[.map none]).run P w=.ok (ι ε 0) w:=by simp[Builtin.len_,run_underlying hT,Result.andThen,go_sem]
theorem aC {w:ϖ} {B M:Nat} {cs:Array ϗ} {t:TypeId} {L:List (Int × ϗ)} (h:ah w B cs t)(k:aB w M L):B≠M:=by rintro rfl;obtain⟨es,c,hb,_⟩:=k;unfold ah at h;rw[h] at hb;cases hb
theorem eq {w:ϖ} {B M:Nat} {cs cs':Array ϗ} {t t':TypeId} (h:ah w B cs t)(k:ah w M cs' t')(e:t≠t'):B≠M:=by rintro rfl;unfold ah at h k;rw[h] at k;cases k;exact e rfl
theorem aB.made (w:ϖ):aB (w.alloc (.map #[] 0)) w []:=⟨#[],0,(MapKept.heap_alloc w _).1,rfl,MapKept.stamped_empty 0⟩
theorem aB.alloc {w:ϖ} {M:Nat} {L:List (Int × ϗ)} (h:aB w M L)(o:Obj):aB (w.alloc o) M L:=h.of_eq ((MapKept.heap_alloc w o).2 M h.size)
theorem aB.drew {w:ϖ} {M:Nat} {L:List (Int × ϗ)} (h:aB w M L):aB w.drew M L:=h
theorem aB.grow {w:ϖ} {M:Nat} {L:List (Int × ϗ)} (h:aB w M L)(d:Nat)(os:Array Obj):aB (grow (redrawn w d) os) M L:=h.below (qW _ _ _)
def iu (w:ϖ)(r M:Nat)(R:List (Int × ϗ)):Prop:=∃(es:Array MapEntry)(KE Lt c0:Nat)(seen:Array Nat),w.heap[r]?=some (.mapIter (some M) Lt seen c0)/\w.heap[M]?=some (.map es KE)/\Lt<=c0/\Lt<=KE/\(∀e ∈ es.toList,e.born<Lt)/\(es.toList.map (·.born)).Nodup/\gX (leftOf es seen).toList R
theorem iu.below {w v:ϖ} {r M:Nat} {R:List (Int × ϗ)} (h:iu w r M R)(hb:Below w w v):iu v r M R:=by obtain⟨es,cl,si,c0,se,h1,h2,h3⟩:=h;exact⟨es,cl,si,c0,se,(hb.block r (Array.getElem?_eq_some_iff.1 h1).1).trans h1,(hb.block M (Array.getElem?_eq_some_iff.1 h2).1).trans h2,h3⟩
instance {w r M R}:Mv (iu w r M R) w (λv'=>iu v' r M R):=⟨λk h=>iu.below h k⟩
theorem iu.ko {w v:ϖ} {F:Nat->Prop} {r M:Nat} {R:List (Int × ϗ)} (h:iu w r M R)(k:KO F w v)(hr:¬F r)(hM:¬F M):iu v r M R:=by obtain⟨es,cl,si,c0,se,h1,h2,h3⟩:=h;exact⟨es,cl,si,c0,se,(k.block r (Array.getElem?_eq_some_iff.1 h1).1 hr).trans h1,(k.block M (Array.getElem?_eq_some_iff.1 h2).1 hM).trans h2,h3⟩
theorem tV (es:Array MapEntry):leftOf es #[]=es:=by unfold leftOf;apply Array.toList_inj.1;simp
theorem El {P:Program} {T K E:TypeId} (hT:P.underlying T=some (.map K E)) {w:ϖ} {M:Nat} {L:List (Int × ϗ)} (h:aB w M L):∃KE,(Instr.range T (.map (some M))).run P w=.ok (ψ w) (w.alloc (.mapIter (some M) KE #[] KE))/\iu (w.alloc (.mapIter (some M) KE #[] KE)) w M L:=by have Ku:=h.size;obtain⟨es,KE,hb,hs,LS⟩:=h;obtain⟨hbo,Ob,_⟩:=(MapKept.stamped_iff _ _).1 LS;refine⟨KE,run_range_map w _ _ _ M es KE hT hb,es,KE,KE,KE,#[],heap_alloc_new _ _,(heap_alloc_old w _ Ku).trans hb,qR _,qR _,hbo,Ob,?_⟩;rw[tV];exact hs
theorem uo {R:List (Int × ϗ)}:∀{es:List MapEntry} {l1 l2:List MapEntry} {e:MapEntry},gX (l1++e::l2) R->∃R1 f R2,R=R1++f::R2/\e.key=ik f.1/\e.val=f.2/\gX (l1++l2) (R1++R2):=by
 intro es l1 l2 e h;unfold gX at h;rw[List.map_append,eJ] at h;have hl:l1.length<=R.length:=by have:=qG List.length h;simp at this;omega
 refine⟨R.take l1.length,?_⟩;cases hd:R.drop l1.length with
 | nil=>have:=qG List.length hd;have h2:=qG List.length h;simp at this h2;omega
 | cons f R2=>
  have hR:R=R.take l1.length++f::R2:=by rw[<- hd,List.take_append_drop]
  rw[hR,List.map_append,eJ] at h;have KC:(l1.map λe=>(e.key,e.val)).length=((R.take l1.length).map λp=>(ik p.1,p.2)).length:=ρF;obtain⟨h1,h2⟩:=List.append_inj h KC;simp only[List.cons.injEq,Prod.mk.injEq] at h2;refine⟨f,R2,hR,h2.1.1,h2.1.2,?_⟩;unfold gX;rw[List.map_append,List.map_append,h1,h2.2]
theorem tN {l1 l2:List MapEntry} {e:MapEntry} (hn:((l1++e::l2).map (·.born)).Nodup):(l1++e::l2).filter (λx=>!(x.born==e.born))=l1++l2:=by
 rw[List.map_append,eJ] at hn;obtain⟨n1,n2,n3⟩:=List.nodup_append.1 hn;have n4:=qD.1 n2;rw[List.filter_append,List.filter_cons];rw[qI ρp]
 congr 1
 ·refine List.filter_eq_self.2 λx hx=>?_;have:x.born≠e.born:=n3 _ (List.mem_map.2 ⟨x,hx,rfl⟩) _ (List.mem_cons_self ..);simpa using this
 ·refine List.filter_eq_self.2 λx hx=>?_;have:x.born≠e.born:=λq=>n4.1 (by rw[<- q];exact List.mem_map.2 ⟨x,hx,rfl⟩);simpa using this
theorem wG (es:Array MapEntry)(seen:Array Nat)(b:Nat):(leftOf es (seen.push b)).toList=(leftOf es seen).toList.filter (λx=>!(x.born==b)):=by unfold leftOf;rw[Array.toList_filter,Array.toList_filter,List.filter_filter];refine List.filter_congr λx _=>?_;rw[contains_push,Bool.not_or,Bool.and_comm]
theorem tW {es:Array MapEntry} {seen:Array Nat} (hn:(es.toList.map (·.born)).Nodup):((leftOf es seen).toList.map (·.born)).Nodup:=by unfold leftOf;rw[Array.toList_filter];exact List.Nodup.sublist (List.Sublist.map _ List.filter_sublist) hn
theorem BF {P:Program} {w:ϖ} {r M:Nat} {R:List (Int × ϗ)} (h:iu w r M R)(ty:TypeId):
  (R=[]/\(Instr.next r false ty).run P w=.ok (χ #[dO]) w)\/
  ∃R1 f R2 w',R=R1++f::R2/\(Instr.next r false ty).run P w=.ok (χ #[fF,ik f.1,f.2]) w'/\iu w' r M (R1++R2)/\Below r w w'/\w'.heap.size=w/\(∀b,b≠r->w'.heap[b]?=w.heap[b]?)/\(Instr.entry r).run P w'=.ok (χ #[ik f.1,f.2]) w':=by
 obtain⟨es,KE,Lt,c0,seen,hr,hb,RX,hsk,hold,Ob,hs⟩:=h;have hrlt:r<w:=(Array.getElem?_eq_some_iff.1 hr).1;have KI:r≠M:=λe=>by rw[e,hb] at hr;cases hr
 have OF:∀x ∈ (leftOf es seen).toList,x.born<Lt:=λx hx=>hold x (mem_left hx).1;have Om:=tW (seen:=seen) Ob;have Mk:=λe=>wG es seen e;have KW:∀e ∈ (leftOf es seen).toList,e ∈ es.toList:=λe he=>(mem_left he).1;have Ug:∀(K:Result ϗ->Prop),(∀x,(Instr.next r false ty).run P w=x->K x)->K ((Instr.next r false ty).run P w):=λK h=>h _ rfl;simp only[Instr.next,getObj,Sem.run_bind,Sem.run,hr,hb,Result.andThen,next_test_false seen es Lt c0 hold RX,Bool.false_eq_true,if_false];show (R=[]/\_)\/_;have hleft:(Array.filter (λe=>!seen.contains e.born) es)=leftOf es seen:=rfl;rw[hleft];generalize leftOf es seen=L at OF hs Om Mk KW ⊢;have e1:L.filter (λx=>decide (x.born<Lt))=L:=Array.filter_eq_self.2 (λx hx=>by simpa using OF x (by simpa using hx));have e2:L.filter (λx=>decide (x.born≥Lt))=#[]:=by rw[Array.filter_eq_empty_iff];intro x hx;have:=OF x (by simpa using hx);simp;omega
 simp only[e1,e2,Array.append_empty];by_cases h0:L.size=0
 ·left;have:L=#[]:=Array.eq_empty_of_size_eq_zero h0;subst this;refine⟨?_,by simp[choose,Sem.run,Question.forced]⟩;unfold gX at hs;simpa using hs
 ·right;have hne':L.isEmpty=false:=by simp[Array.isEmpty,h0]
  simp only[hne',Bool.false_eq_true,if_false,Array.empty_append,Array.size_map];have K8:∃(j:Nat) (w1:ϖ),j<L.size/\w1.heap=w.heap/\w1.os=w.os/\Below w w w1/\(choose (Question.mapNext L.size)).run P w=.ok j w1:=by
   by_cases hf:L.size<=1
   ·exact⟨0,w,by omega,rfl,rfl,Below.refl _ _,by simp[choose,Sem.run,Question.forced,hf]⟩
   ·exact⟨_,w.drew,Nat.mod_lt _ ρa,rfl,rfl,Below.drew (Below.refl _ _),by
     simp only[choose,Sem.run,Question.forced,decide_eq_true_eq,hf,if_false,Question.cut];rfl⟩
  obtain⟨j,w1,hj,hhe,hos,hbel,YO⟩:=K8;obtain⟨l1,l2,hl⟩:∃l1 l2,L.toList=l1++L[j]::l2:=⟨L.toList.take j,L.toList.drop (j+1),by
   have:L.toList.drop j=L[j]::L.toList.drop (j+1):=by rw[List.drop_eq_getElem_cons τ3];simp
   rw[<- this,List.take_append_drop]⟩
  rw[hl] at hs Om;obtain⟨R1,f,R2,hR,hk,hv,K6⟩:=uo (es:=[]) hs;have WL:w1.heap[r]?=some (.mapIter (some M) Lt seen c0):=by rw[hhe];exact hr
  have Oc:(setObj r (.mapIter (some M) Lt (seen.push L[j].born) KE)).run P w1=.ok () {w1 with heap:=w1.heap.setIfInBounds r (.mapIter (some M) Lt (seen.push L[j].born) KE)}:=by simp only[setObj,Sem.run,WL]
  have ho:∀b,b≠r->(w1.heap.setIfInBounds r (.mapIter (some M) Lt (seen.push L[j].born) KE))[b]?=w.heap[b]?:=λb hbr=>by rw[Array.getElem?_setIfInBounds,qI (λe=>hbr e.symm),hhe]
  have hn:(w1.heap.setIfInBounds r (.mapIter (some M) Lt (seen.push L[j].born) KE))[r]?=some (.mapIter (some M) Lt (seen.push L[j].born) KE):=by rw[Array.getElem?_setIfInBounds,qP rfl,qP (by rw[hhe];exact hrlt)]
  have hbM:(w1.heap.setIfInBounds r (.mapIter (some M) Lt (seen.push L[j].born) KE))[M]?=some (.map es KE):=(ho M (λe=>KI e.symm)).trans hb;refine⟨R1,f,R2,{w1 with heap:=w1.heap.setIfInBounds r (.mapIter (some M) Lt (seen.push L[j].born) KE)},hR,?_,?_,?_,?_,ho,?_⟩
  ·simp only[YO,Array.getElem?_map,Array.getElem?_eq_getElem hj,Option.map_some,Sem.run_bind,Oc,Result.andThen];rw[hk,hv];rfl
  ·refine⟨es,KE,Lt,KE,seen.push L[j].born,hn,hbM,hsk,hsk,hold,Ob,?_⟩;rw[Mk,hl,tN Om];exact K6
  ·refine(hbel.mono (Nat.le_of_lt hrlt)).trans ⟨rfl,rfl,rfl,by simp,λb hbr=>?_⟩;show (w1.heap.setIfInBounds r _)[b]?=w1.heap[b]?;rw[Array.getElem?_setIfInBounds,qI ρa]
  ·simp[hhe]
  ·have hmj:L[j] ∈ es.toList:=KW _ ρp;have hf:es.find? (·.born==L[j].born)=some L[j]:=by rw[<- Array.find?_toList];exact find_born L[j] es.toList Ob hmj
   simp only[Instr.entry,getObj,Sem.run_bind,Sem.run,hn,hbM,Result.andThen,Array.back?_push,bne_self_eq_false,Bool.false_eq_true,if_false,hf];rw[hk,hv];rfl
section
variable {P:Program} {T K E:TypeId} {Ki:Array Oper} {rest:List Oper} {o:Oper} {a:Act} {Q:Exit->Act->ϖ->Prop}
theorem m9 (hT:P.underlying T=some (.map K E)) {w:ϖ} (hg:o.guard=none)(m:Operand)(RV:o.op=Op.range T m)(M:Nat)(L:List (Int × ϗ))(hm:a.eval m=.map (some M))(h:aB w M L)
  (hK:∀w',iu w' w M L->Below w w w'->w'.heap.size=w+1->wpList P Ki Q rest (a.put o.dst w) w'):wpList P Ki Q (o::rest) a w:=by
 refine wpList_plain hg λK' hK'=>?_;obtain⟨c,Ug,hi⟩:=El hT h;unfold Oper.wp;simp[execOp,RV,hm,Ug,Result.andThen];exact hK' _ _ (hK _ hi (Below.alloc (Below.refl _ _) (qR _) _) ρp)
theorem nD {w:ϖ} (hg:o.guard=none)(it:Operand)(RV:o.op=Op.next it false)(r M:Nat)(R:List (Int × ϗ))(Ei:a.eval it=r)(h:iu w r M R)
  (hDone:R=[]->wpList P Ki Q rest (a.put o.dst (χ #[dO])) w)
  (hMore:∀R1 f R2 w',R=R1++f::R2->iu w' r M (R1++R2)->Below r w w'->w'.heap.size=w->(∀b,b≠r->w'.heap[b]?=w.heap[b]?)->(Instr.entry r).run P w'=.ok (χ #[ik f.1,f.2]) w'->wpList P Ki Q rest (a.put o.dst (χ #[fF,ik f.1,f.2])) w'):wpList P Ki Q (o::rest) a w:=by
 refine wpList_plain hg λK' hK'=>?_;unfold Oper.wp;rcases BF (P:=P) h o.type with ⟨h0,Ug⟩|⟨R1,f,R2,w',e1,Ug,h2,h3,h4,h5,h6⟩
 ·simp[execOp,RV,Ei,Ug,Result.andThen];exact hK' _ _ (hDone h0)
 ·simp[execOp,RV,Ei,Ug,Result.andThen];exact hK' _ _ (hMore R1 f R2 w' e1 h2 h3 h4 h5 h6)
end
abbrev TM:=Int->Option (Int × Int)
def aP (m:TM)(k:Int)(v:Option (Int × Int)):TM:=λj=>if j=k then v else m j
def TM.ok (m:TM):Prop:=∀j p,m j=some p->(0<=p.1/\p.1<=Ma)/\(0<=p.2/\p.2<=Ma)
def gP (j:Int)(p:Int × Int):az:=⟨⟨p.1,j⟩,⟨p.2,j⟩⟩
def dz (m:TM)(t:AT):Prop:=∀y,y ∈ t.items↔∃j p,m j=some p/\y=gP j p
theorem dz.ins {m:TM} {t:AT} (h:dz m t) {k:Int} {p:Int × Int} (hk:m k=none):(∀y ∈ t.items,y.key≠(gP k p).key)/\dz (aP m k (some p)) (t.ins (gP k p)):=by
 have KI:∀y ∈ t.items,y.key≠(gP k p).key:=λy hy e=>by obtain⟨j,q,hq,rfl⟩:=(h y).1 hy;simp only[gP,aG.mk.injEq] at e;rw[e.2,hk] at hq;cases hq
 refine⟨KI,λy=>?_⟩;rw[AT.mem_ins t _ KI];constructor
 ·rintro(rfl|hy)
  ·exact⟨k,p,by simp[aP],rfl⟩
  ·obtain⟨j,q,hq,rfl⟩:=(h y).1 hy;exact⟨j,q,by unfold aP;rw[qI (λe=>by rw[e,hk] at hq;cases hq)];exact hq,rfl⟩
 ·rintro⟨j,q,hq,rfl⟩;unfold aP at hq;by_cases e:j=k
  ·rw[qP e] at hq;cases hq;subst e;exact .inl rfl
  ·rw[qI e] at hq;exact .inr ((h _).2 ⟨j,q,hq,rfl⟩)
theorem dz.del {m:TM} {t:AT} (h:dz m t)(o:AT.Ord t) {k:Int} {p:Int × Int} (hk:m k=some p):(∃y ∈ t.items,y.key=(gP k p).key)/\dz (aP m k none) (t.del (gP k p).key):=by
 have he:∃y ∈ t.items,y.key=(gP k p).key:=⟨gP k p,(h _).2 ⟨k,p,hk,rfl⟩,rfl⟩;refine⟨he,λy=>?_⟩;rw[AT.del_items t _ o he,qE];constructor
 ·rintro⟨hy,hn⟩;obtain⟨j,q,hq,rfl⟩:=(h y).1 hy;have XH:(gP j q).key≠(gP k p).key:=by simpa using hn
  refine⟨j,q,?_,rfl⟩;unfold aP;rw[qI (λe=>XH (by subst e;rw[hk] at hq;cases hq;rfl))];exact hq
 ·rintro⟨j,q,hq,rfl⟩;unfold aP at hq;by_cases e:j=k
  ·rw[qP e] at hq;cases hq
  ·rw[qI e] at hq;refine⟨(h _).2 ⟨j,q,hq,rfl⟩,?_⟩;simp only[gP,ne_eq,aG.mk.injEq,decide_eq_true_eq];exact λq=>e q.2
theorem dz.ext {m m':TM} {t:AT} (h:dz m t)(e:∀j,m j=m' j):dz m' t:=by have:m=m':=funext e;rw[<- this];exact h
theorem dz.count {m:TM} {t:AT} (h:dz m t)(o:AT.Ord t) {ids:List Int} (hi:∀j,m j≠none->j ∈ ids):t.many<=ids.length:=by
 rw[AT.many_items];have Ob:(t.items.map (λy=>y.key.id)).Nodup:=by unfold List.Nodup;rw[List.pairwise_map];have o':t.items.Pairwise (λa b=>a.key.lt b.key):=o;refine List.Pairwise.imp_of_mem (fun {a b} ha hb Kv=>?_) o';obtain⟨j,p,hp,rfl⟩:=(h a).1 ha;obtain⟨k,q,hq,rfl⟩:=(h b).1 hb;intro e;have e':j=k:=e;subst e';rw[hp] at hq;cases hq;exact aG.lt_irrefl _ Kv
 have Od:∀x ∈ t.items.map (λy=>y.key.id),x ∈ ids:=λx hx=>by obtain⟨y,hy,rfl⟩:=List.mem_map.1 hx;obtain⟨j,p,hp,rfl⟩:=(h y).1 hy;exact hi j (by rw[hp];simp)
 have:=List.Nodup.length_le_of_subset Ob Od;simp only[nl] at this;omega
theorem dz.nil {t:AT} {m:TM} (h:dz m t):t=.nil↔∀j,m j=none:=by
 constructor
 ·rintro rfl j;cases e:m j with
  | none=>rfl
  | some p=>exact ax ((h _).2 ⟨j,p,e,rfl⟩) (by simp[AT.items])
 ·intro hm;cases t with
  | nil=>rfl
  | node l i r=>obtain⟨j,p,hp,_⟩:=(h i).1 (by simp[AT.items]);rw[hm] at hp;cases hp
def uT (m:TM)(p:Int)(id:Int)(ok:Bool):Prop:=match ok with
 | false=>id=0/\∀j q,m j=some q->p<q.1
 | true=>∃x,m id=some x/\x.1<=p/\∀j q,m j=some q->q.1<=p->x.2<q.2\/x.2=q.2/\id<=j
def nH (m:TM)(p:Int)(id:Int)(ok:Bool):Prop:=match ok with
 | false=>id=0/\∀j q,m j=some q->p<q.2
 | true=>∃x,m id=some x/\x.2<=p/\∀j q,m j=some q->q.2<=p->x.1<q.1\/x.1=q.1/\id<=j
def jb (m:TM)(v:Int)(ok:Bool):Prop:=match ok with
 | false=>v=0/\∀j,m j=none
 | true=>(∃j q,m j=some q/\v=q.1)/\∀j q,m j=some q->v<=q.1
def iv (m:TM)(d v:Int):Prop:=(v=d\/∃j q,m j=some q/\v=q.2)/\v<=d/\∀j q,m j=some q->v<=q.2
def ff (m:TM)(d v:Int):Prop:=(v=d\/∃j q,m j=some q/\v=q.1)/\v<=d/\∀j q,m j=some q->v<=q.1
theorem yM {m:TM} {t:AT} (h:dz m t)(o:AT.Ord t)(p:Int):uT m p ((t.bestTo p).getD ⟨⟨0,0⟩,⟨0,0⟩⟩).key.id (t.bestTo p).isSome:=by
 have hb:=AT.best_bestTo t p o;cases e:t.bestTo p with
 | none=>rw[e] at hb;refine⟨rfl,λj q hq=>?_⟩;have h1:¬(gP j q).key.pos<=p:=λQT=>hb (gP j q) ⟨(h _).2 ⟨j,q,hq,rfl⟩,QT⟩;have h2:¬q.1<=p:=h1;omega
 | some x=>rw[e] at hb;obtain⟨⟨hx,hp⟩,KW⟩:=hb;obtain⟨k,a,ha,rfl⟩:=(h x).1 hx;refine⟨a,ha,hp,λj q hq QT=>?_⟩;have:=KW (gP j q) ⟨(h _).2 ⟨j,q,hq,rfl⟩,QT⟩;simp only[AT.NoB,aG.lt,gP,aG.mk.injEq] at this;show a.2<q.2\/a.2=q.2/\k<=j;omega
theorem yN {m:TM} {t:AT} (h:dz m t)(o:AT.Ord t)(p:Int):match t.firstAt p with|none=>nH m p 0 false|some x=>nH m p x.key.id true:=by
 have hb:=AT.firstAt_spec t p o;cases e:t.firstAt p with
 | none=>rw[e] at hb;exact⟨rfl,λj q hq=>hb (gP j q) ((h _).2 ⟨j,q,hq,rfl⟩)⟩
 | some x=>rw[e] at hb;obtain⟨hx,hp,KW⟩:=hb;obtain⟨k,a,ha,rfl⟩:=(h x).1 hx;refine⟨a,ha,hp,λj q hq QT=>?_⟩;have:=KW (gP j q) ((h _).2 ⟨j,q,hq,rfl⟩) QT;simp only[aG.lt,gP] at this;show a.1<q.1\/a.1=q.1/\k<=j;omega
theorem nW {m:TM} {l r:AT} {i:az} (h:dz m (.node l i r))(o:AT.Ord (.node l i r)):jb m (l.first i).key.pos true:=by
 obtain⟨z,hz⟩:=AT.first_node l i r;have ho:((l.first i)::z).Pairwise (λa b=>a.key.lt b.key):=by have:=o;unfold AT.Ord at this;rw[hz] at this;exact this
 refine⟨?_,λj q hq=>?_⟩
 ·obtain⟨j,q,hq,e⟩:=(h (l.first i)).1 (by rw[hz];simp);exact⟨j,q,hq,by rw[e];rfl⟩
 ·have hm:=(h _).2 ⟨j,q,hq,rfl⟩;rw[hz] at hm;rcases qC.1 hm with e|hm
  ·rw[<- e];exact qJ _
  ·have:=(List.pairwise_cons.1 ho).1 _ hm;simp only[aG.lt,gP] at this;omega
theorem wF {m:TM} {t:AT} (h:dz m t)(o:AT.Ord t)(K7:m.ok)(d:Int)(f:az)(hf:t.bestTo Ma=some f):iv m d (min f.val.pos d):=by
 have hb:=AT.best_bestTo t Ma o;rw[hf] at hb;obtain⟨⟨hx,hp⟩,KW⟩:=hb;obtain⟨k,a,ha,rfl⟩:=(h f).1 hx;refine⟨?_,Int.min_le_right _ _,λj q hq=>?_⟩
 ·show min a.2 d=d\/_;rcases Int.le_total a.2 d with g|g
  ·exact .inr ⟨k,a,ha,by show min a.2 d=a.2;omega⟩
  ·exact .inl ρa
 ·have:=KW (gP j q) ⟨(h _).2 ⟨j,q,hq,rfl⟩,((K7 j q hq).1.2)⟩;simp only[AT.NoB,aG.lt,gP,aG.mk.injEq] at this;show min a.2 d<=q.2;omega
theorem wb {m:TM} {t:AT} (h:dz m t)(o:AT.Ord t)(K7:m.ok)(KI:∃j,m j≠none):∃f,t.bestTo Ma=some f:=by
 have hb:=AT.best_bestTo t Ma o;cases e:t.bestTo Ma with
 | none=>
  rw[e] at hb;obtain⟨j,hj⟩:=KI;cases ej:m j with
  | none=>exact ax ej hj
  | some q=>exact ax ⟨(h _).2 ⟨j,q,ej,rfl⟩,(K7 j q ej).1.2⟩ (hb (gP j q))
 | some f=>exact⟨f,rfl⟩
theorem wE {m:TM} {l r:AT} {i:az} (h:dz m (.node l i r))(o:AT.Ord (.node l i r))(d:Int):ff m d (min (l.first i).key.pos d):=by
 obtain⟨⟨j,q,hq,e⟩,KW⟩:=nW h o;refine⟨?_,Int.min_le_right _ _,λk x hx=>by have:=KW k x hx;omega⟩;rcases Int.le_total (l.first i).key.pos d with g|g
 ·exact .inr ⟨j,q,hq,by omega⟩
 ·exact .inl ρa
theorem pU {m:TM} (h:m.ok) {k:Int} {p:Int × Int} (hp:(0<=p.1/\p.1<=Ma)/\(0<=p.2/\p.2<=Ma)):(aP m k (some p)).ok:=by
 intro j q hq;unfold aP at hq;split at hq
 ·cases hq;exact hp
 ·exact h j q hq
theorem jP {m:TM} (h:m.ok) {k:Int}:(aP m k none).ok:=by
 intro j q hq;unfold aP at hq;split at hq
 ·cases hq
 ·exact h j q hq
theorem fj (n m:Int)(w:ϖ)(b:Bool)(hb:decide (1<=n/\n<=m)=b):Calls Ψ 225 #[ι ε n,ι ε m] w λe w'=>e=ϰ (β b)/\w=w':=by
 subst hb;by_cases h1:1<=n
 ·by_cases h2:n<=m
  ·rw[qT (show 1<=n/\n<=m from⟨h1,h2⟩)];have d1:=qT h1;exact ξy
  ·rw[qF (show ¬(1<=n/\n<=m) from λh=>h2 h.2)];have d1:=qT h1;have d2:=qF h2;exact ξy
 ·rw[qF (show ¬(1<=n/\n<=m) from λh=>h1 h.1)];have d1:=qF h1;exact ξy
def bt (v:Int)(k:Nat):Int:=v / 2 ^ (8*k) % 256
def IN (l:List UInt8):Int:=l.foldl (λv c=>v*256+(c.toNat:Int)) 0
abbrev In (id len h0 h1 h2 h3:Int):ϗ:=φ #[ι υ id,ι ε len,ι ω h0,ι ω h1,ι ω h2,ι ω h3]
def l0 (id len h0 h1 h2 h3:Int):List Int:=[0,0,0,0,0,0,0,0,0,0,0,0,0,0,0,0,0,0]
def l8 (id len h0 h1 h2 h3:Int):List Int:=[bt id 7,bt id 6,bt id 5,bt id 4,bt id 3,bt id 2,bt id 1,bt id 0,0,0,0,0,0,0,0,0,0,0]
def II (id len h0 h1 h2 h3:Int):List Int:=[bt id 7,bt id 6,bt id 5,bt id 4,bt id 3,bt id 2,bt id 1,bt id 0,bt len 1,bt len 0,0,0,0,0,0,0,0,0]
def nB (s:ByteArray)(a b:Nat):Int:=IN (s.extract a b).data.toList
theorem Ar (id len h0 h1 h2 h3 t:Int)(w:ϖ)(ht:1<=t/\t<=65536)(KC:1<=len/\len<=16384):
  CB 167 #[In id len h0 h1 h2 h3,ι ε t] w (χ #[ι υ (len*t),Kz]):=by
 have hp:0<=len*t/\len*t<=1073741824:=by refine⟨Int.mul_nonneg ρa ρa,?_⟩;have:=Int.mul_le_mul KC.2 ht.2 ρa (by omega:(0:Int)<=16384);omega
 unfold CB;go_in;go_wp2_with fail;refine(fj t 65536 _ true (qT ht)).mono ?_;rintro e u1 ⟨rfl,rfl⟩;go_wp2_with fail;refine(fj len 16384 _ true (qT KC)).mono ?_;rintro e u2 ⟨rfl,rfl⟩;go_wp2;go_returns;exact⟨rfl,ρE⟩
theorem BL (id len h0 h1 h2 h3 m:Int)(w:ϖ)(c:Int)(h:(if 1<=m/\m<=16384 then (if 1<=len/\len<=m then 0 else 26) else 1)=c):
  CB 166 #[In id len h0 h1 h2 h3,ι ε m] w (ι ε c):=by
 by_cases hm:1<=m/\m<=16384
 ·rw[qP hm] at h;by_cases hl:1<=len/\len<=m
  ·rw[qP hl] at h;subst h;unfold CB;go_in;go_wp2_with fail;refine(fj m 16384 _ true (qT hm)).mono ?_;rintro e u1 ⟨rfl,rfl⟩;go_wp2_with fail;refine(fj len m _ true (qT hl)).mono ?_;rintro e u2 ⟨rfl,rfl⟩;go_wp2;go_ret;exact⟨rfl,ρE⟩
  ·rw[qI hl] at h;subst h;unfold CB;go_in;go_wp2_with fail;refine(fj m 16384 _ true (qT hm)).mono ?_;rintro e u1 ⟨rfl,rfl⟩;go_wp2_with fail;refine(fj len m _ false (qF hl)).mono ?_;rintro e u2 ⟨rfl,rfl⟩;go_wp2;go_ret;exact⟨rfl,ρE⟩
 ·rw[qI hm] at h;subst h;unfold CB;go_in;go_wp2_with fail;refine(fj m 16384 _ false (qF hm)).mono ?_;rintro e u1 ⟨rfl,rfl⟩;go_wp2;go_ret;exact⟨rfl,ρE⟩
def bB (L:Nat)(w w':ϖ):Prop:=Below L w w'/\∀B,B<w.heap.size->B≠L->w'.heap[B]?=w.heap[B]?
theorem bB.of_below {L:Nat} {w w':ϖ} (h:Below w w w')(hL:L<=w):bB L w w':=⟨h.mono hL,λB hB _=>h.block B hB⟩
theorem bB.trans {L:Nat} {a b c:ϖ} (h:bB L a b)(k:bB L b c):bB L a c:=
 ⟨h.1.trans k.1,λB hB KI=>(k.2 B (qB hB h.1.size) KI).trans (h.2 B hB KI)⟩
theorem bB.setCell {L:Nat} {a w:ϖ} (h:bB L a w)(i:Nat)(v:ϗ):bB L a (w.setCell ⟨L,i,none⟩ v):=
 ⟨h.1.setCell (qR _) _,λB hB KI=>by rw[Below.heap_setCell _ _ _ _ KI];exact h.2 B hB KI⟩
theorem bB.drew {L:Nat} {a w:ϖ} (h:bB L a w):bB L a w.drew:=⟨h.1.drew,h.2⟩
theorem IK (t:Int)(w:ϖ)(ht:1<=t/\t<=65536):Calls Ψ 49 #[ι ε t] w λe w'=>e=ϰ (χ #[w,Kz])/\Below w w w'/\ah w' w #[ι υ (0),ι υ (0),ι υ (0),ι ε (t),ι υ (0)] 160:=by
 have d1:=df (t<1);have d2:=df (65536<t);go_in;go_wp2;go_returns;exact⟨rfl,ρE,ρB⟩
section
theorem yr (L:Nat)(p b k t u:Int)(w:ϖ)(hL:ah w L #[(p),(b),(k),ι ε (t),(u)] 160)(now:Int)(c:Bool)(hc:decide (u<=now)=c):Calls Ψ 54 #[L,now] w λe w'=>e=ϰ (β c)/\w=w':=by
 have cL:=hL.cell;have zL:=hL.size;go_in;go_wp2;go_ret;exact⟨rfl,rfl⟩
theorem Eo (L:Nat)(p b k t u:Int)(w:ϖ)(hL:ah w L #[(p),(b),(k),ι ε (t),(u)] 160):Calls Ψ 133 #[L] w λe w'=>e=ϰ u/\w=w':=by
 have cL:=hL.cell;have zL:=hL.size;go_in;go_wp2;go_ret;exact⟨rfl,rfl⟩
theorem IJ (L:Nat)(p b k t u:Int)(w:ϖ)(hL:ah w L #[(p),(b),(k),ι ε (t),(u)] 160)(n y:Int)(hn:0<=n/\n<=16384)(hy:0<=y)(h1:0<=p/\p+1<=Ma)(h2:0<=b/\b+n<=Ma)(h3:0<=k/\k+y<=Ma):Calls Ψ 168 #[L,ι ε n,y] w λe w'=>e=ϰ (χ #[])/\ah w' L #[ι υ (p+1),ι υ (b+n),ι υ (k+y),ι ε (t),(u)] 160/\bB L w w':=by
 have cL:=hL.cell;have zL:=hL.size;have fL:=hL.frozen;go_in;go_wp2;go_end0;exact⟨rfl,ρB,(((bB.of_below (Below.refl _ _) ρa).setCell _ _).setCell _ _).setCell _ _⟩
end
section
theorem yt (id len h0 h1 h2 h3 now:Int)(L:Nat)(p b k t u:Int)(w:ϖ)(hL:ah w L #[(p),(b),(k),ι ε (t),(u)] 160)(hn:0<=now/\now<=4611686018427387904)(hl:1<=len/\len<=16384)(hu:u<=now)(ht:1<=t/\t<=65536)(g1:0<=p/\p+1<=Ma)(g2:0<=b/\b+len<=Ma)(y:Int)(hy:len*t=y)(g3:0<=k/\k+y<=Ma):Calls Ψ 130 #[L,now,In id len h0 h1 h2 h3] w λe w'=>e=ϰ (χ #[ι υ (now+y),Kz])/\ah w' L #[ι υ (p+1),ι υ (b+len),ι υ (k+y),ι ε (t),ι υ (now+y)] 160/\bB L w w':=by
 have cL:=hL.cell;have zL:=hL.size;have fL:=hL.frozen;have d1:=df (4611686018427387904<now);have hp:0<=len*t/\len*t<=1073741824:=by refine⟨Int.mul_nonneg ρa ρa,?_⟩;have:=Int.mul_le_mul hl.2 ht.2 ρa (by omega:(0:Int)<=16384);omega
 rw[hy] at hp;have hLw:=hL.size;have Hy:=ag hy;clear hy;have ctk:∀v,CB 167 #[In id len h0 h1 h2 h3,ι ε t] v (χ #[y,Kz]):=λv=>by have:=Ar id len h0 h1 h2 h3 t v ht hl;rw[Hy.out] at this;exact this
 have Htk:=ag ctk;clear ctk;go_in;go_wp2_with fail;refine(BL id len h0 h1 h2 h3 16384 _ 0 (by rw[qP ρa,qP hl])).mono ?_;rintro e w1 ⟨rfl,Kr⟩;have L1:ah w1 (L) #[(p),(b),(k),ι ε (t),(u)] 160:=Zv Kr;have A1:ah w1 w (gT id len h0 h1 h2 h3) 50:=Zv Kr;refine η0 ?_;intro g1 KN;clear Kr;replace cL:=L1.cell;replace fL:=L1.frozen;replace zL:=L1.size;replace cA:=A1.cell;replace fA:=A1.frozen;replace zA:=A1.size;go_wp2_with fail;refine(yr L p b k t u _ L1 now true (qT hu)).mono ?_;rintro e u2 ⟨rfl,rfl⟩;go_wp2_with fail;go_region_held3 (λv=>(∀i,v.cell? ⟨L,i,none⟩=#[ι υ (p),ι υ (b),ι υ (k),ι ε (t),ι υ (u)][i]?)/\L<v/\ah v (L) #[(p),(b),(k),ι ε (t),(u)] 160/\(∀i,v.cell? ⟨w,i,none⟩=(gT id len h0 h1 h2 h3)[i]?)/\w.heap.size<v/\ah v w (gT id len h0 h1 h2 h3) 50/\Below w w v)
  (first
   | (refine⟨?_,?_,?_,?_,?_,?_,?_⟩<;>first | (with_reducible assumption) | ((repeat' (first | (with_reducible (first | assumption | exact ah.alloc_new _ _ _ ρ4 | apply ah.drewN | apply ah.drew | apply ah.alloc_old | apply ah.set_same | apply ah.set_other)) | (show (_:Nat)≠_;first | omega | (simp;done) | (simp;omega)) | ((simp only[List.setIfInBounds_toArray,List.set_cons_succ,List.set_cons_zero]);(with_reducible exact rfl)) | (with_reducible exact rfl) | (show (_:Array ϗ)=_;exact rfl)));done) | ((repeat' (first | (with_reducible (first | exact Below.refl _ _ | assumption | refine below_drewN ?_ _ | refine Below.drew ?_ | refine Below.alloc ?_ ?_ _ | refine Below.setCell ?_ ?_ _)) | go_size));done) | omega | (go_simp;done) | (simp;done) | (exact ah.cell ρB)))
  (first
   | (go_at_call 167;(with_reducible refine(Htk.out _).mono ?_);refine bf ?_;intro w' f' KK KJ;have hkL:=L1.tr f';have hqL:=hkL.cell;have hzL:=hkL.size;have KA:=A1.tr f';have hqA:=KA.cell;have hzA:=KA.size;clear f'))
 all_goals
  have fL2:=hkL.frozen;go_wp2_with fail;refine aI (λv=>bB L w v/\ah v L #[(p),(b),(k),ι ε (t),ι υ (now+y)] 160/\ah v w (gT id len h0 h1 h2 h3) 50) ⟨(bB.of_below KK ρa).setCell _ _,ρB,ρB⟩ ?_;clear cL fL zL cA fA zA hqL hqA fL2 hkL KA hzL hzA KK L1 A1 g1;rintro v ⟨K2,L2,A2⟩;have cL:=L2.cell;have cA:=A2.cell;have zL:=L2.size;have zA:=A2.size;go_region_with (first|(go_at_call 168;(with_reducible refine(IJ L p b k t (now+y) _ ρB len y ρa ρa ρa g2 g3).mono ?_);rintro e w3 ⟨rfl,L3,K3⟩;have cL3:=L3.cell;have zL3:=L3.size))
  all_goals
   go_wp2;go_returns;exact⟨rfl,L3,by first|exact K2.trans K3|exact K2.drew.trans K3|exact(K2.drewN _).trans K3⟩
end
end Go.Proofs.YtfdlemkplejdnaaGreat
