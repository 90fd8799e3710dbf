/- WholeLatest, part 13. Conditions: none. -/
import Derived.Test.YtfdlemkplejdnaaGreatA9
namespace Go.Proofs.YtfdlemkplejdnaaGreat
open Go.RowKit Go.Sort
open Value renaming int->ι,pointer->ψ,slice->ζ,tuple->χ,agg->φ,map->μ,bool->β
open IntKind renaming u64->υ,i64->ε,u16->ω
open Ending renaming returned->ϰ
open Go.Proofs.Tryz renaming prog->Ψ,underlying3->Θ,underlying147->Δ,underlying152->Γ,underlying202->Φ,underlying39->Ξ,underlying207->Ω
open Go renaming World->ϖ,Value->ϗ
set_option linter.unusedVariables false
set_option linter.unusedSimpArgs false
set_option maxHeartbeats 8000000
set_option maxRecDepth 100000
def fd (Y M:Int):Prop:=(0<=Y/\Y<1267650600228229401496703205376)/\(0<=M/\M<68719476736)
theorem wJ {Y M:Int} (h:fd Y M):ai Y:=by unfold fd at h;unfold ai;omega
theorem iC {X Y M x:Int} (h:fd Y M)(hX:0<=X)(hx:x<=Ma):la X Y M x=if x<=X then Y else Y+M*(x - X):=by
 unfold la;split
 ·rfl
 ·unfold fd at h;have h1:=Int.mul_nonneg h.2.1 (show 0<=x - X by omega);have h2:=Int.mul_le_mul (show M<=68719476735 by omega) (show x - X<=Ma by omega) (show 0<=x - X by omega) ρa;exact fI ρz
theorem jE {X Y M x:Int} (h:fd Y M)(hX:0<=X)(hx:x<=Ma)(hxx:X<=x):la X Y M x=Y+M*(x - X):=by
 rw[iC h hX hx];split
 ·rw[show x - X=0 by omega,Int.mul_zero,Int.add_zero]
 ·rfl
theorem EL {s m x:Int} (h:ov s m x≠Mc):m≠0/\ov s m x=x+up s m:=by
 unfold ov at h ⊢;split at h
 ·exact ax rfl h
 ·rename_i hh;rw[qI hh];omega
theorem wZ {X Y M W:Int} (h:fd Y M)(hX:an X)(hW:0<=W)(hn:lr X Y M W≠Mc):W<=la X Y M (lr X Y M W)/\(0<lr X Y M W->la X Y M (lr X Y M W - 1)<W):=by
 have hr:=yx (X:=X) (Y:=Y) (M:=M) (W:=W) hX.1 h.2.1;by_cases h0:W<=Y
 ·have e:lr X Y M W=0:=by unfold lr;rw[qP h0]
  rw[e];refine⟨?_,by omega⟩;rw[iC h hX.1 ρa,qP hX.1];exact h0
 ·have e:lr X Y M W=ov (W - Y) M X:=by unfold lr;rw[qI h0]
  rw[e] at hn hr ⊢;obtain⟨hM,e2⟩:=EL hn;rw[e2] at hr ⊢;have hM1:1<=M:=by unfold fd at h;omega
  have hu:=ig (s:=W - Y) ρa hM1;have h3:=hu.2.1 ρa;refine⟨?_,λ_=>?_⟩
  ·rw[jE h hX.1 ρa ρa,show X+up (W - Y) M - X=up (W - Y) M by omega];omega
  ·rw[jE h hX.1 ρa ρa,show X+up (W - Y) M - 1 - X=up (W - Y) M - 1 by omega];omega
theorem vi {X Y M x y:Int} (h:fd Y M)(hX:0<=X)(h1:X<=x)(h2:x<=y)(hy:y<=Ma):la X Y M y=la X Y M x+M*(y - x):=by rw[jE h hX hy ρa,jE h hX ρa h1,Int.mul_sub,Int.mul_sub,Int.mul_sub];omega
theorem yw {Xa Ya Xb Yb M x:Int} (ha:fd Ya M)(hb:fd Yb M)(Tp:0<=Xa)(Tq:0<=Xb)(h1:Xa<=x)(h2:Xb<=x)(hx:x<=Ma):
  (lowB Xa Ya M Xb Yb M=true->la Xb Yb M x<=la Xa Ya M x)/\(lowB Xa Ya M Xb Yb M=false->la Xa Ya M x<=la Xb Yb M x):=by
 have e1:=vi (x:=max Xa Xb) (y:=x) ha Tp ρa ρa hx;have e2:=vi (x:=max Xa Xb) (y:=x) hb Tq ρa ρa hx;unfold lowB;constructor
 ·intro h;have:=of_decide_eq_true h;omega
 ·intro h;have:=of_decide_eq_false h;omega
structure LN where
 (X Y M:Int)
structure RN where
 (f t:LN)
 (b:Bool)
def LN.ok (l:LN):Prop:=(0<=l.X/\l.X<=Ma)/\ai l.Y/\(0<=l.M/\l.M<=Ma)
def RN.ok (r:RN):Prop:=r.f.ok/\r.t.ok
def LN.at (l:LN)(x:Int):Int:=la l.X l.Y l.M x
def LN.reach (l:LN)(W:Int):Int:=lr l.X l.Y l.M W
def LN.lowB (a b:LN):Bool:=Go.Proofs.YtfdlemkplejdnaaGreat.lowB a.X a.Y a.M b.X b.Y b.M
def LN.low (a b:LN):LN:=if LN.lowB a b then b else a
def LN.zero:LN:=⟨0,0,0⟩
def RN.at (r:RN)(x:Int):Int:=if r.b then (if r.f.at x<r.t.at x then r.f.at x else r.t.at x) else r.t.at x
def RN.reach (r:RN)(W:Int):Int:=if r.b then max (r.f.reach W) (r.t.reach W) else r.t.reach W
def RN.meet (a b:RN):RN:=⟨if a.b then LN.low a.f b.f else LN.zero,LN.low a.t b.t,a.b⟩
def RN.ready (m d n x y:Int):RN:=
 if kd m d n=2\/kd m d n=4 then ⟨LN.zero,⟨x,y,n⟩,false⟩ else if kd m d n=3 then ⟨⟨x,y,m⟩,⟨x,bh (y+(m - n)*d),n⟩,true⟩ else ⟨LN.zero,⟨x,y,0⟩,false⟩
def RN.start (m d n x y:Int):RN:=
 if kd m d n=4 then ⟨LN.zero,⟨x+d,y,n⟩,false⟩ else RN.ready m d n x y
theorem LN.zero_ok:LN.zero.ok:=by unfold LN.ok LN.zero ai;simp
theorem LN.low_ok {a b:LN} (ha:a.ok)(hb:b.ok):(LN.low a b).ok:=by unfold LN.low;split<;>assumption
theorem RN.meet_ok {a b:RN} (ha:a.ok)(hb:b.ok):(RN.meet a b).ok:=by
 refine⟨?_,LN.low_ok ha.2 hb.2⟩;show (if a.b then LN.low a.f b.f else LN.zero).ok;split
 ·exact LN.low_ok ha.1 hb.1
 ·exact LN.zero_ok
theorem LN.reach_rng {l:LN} (h:l.ok)(W:Int):0<=l.reach W/\l.reach W<=Mc:=yx h.1.1 h.2.2.1
theorem RN.reach_rng {r:RN} (h:r.ok)(W:Int):0<=r.reach W/\r.reach W<=Mc:=by have h1:=LN.reach_rng h.1 W;have h2:=LN.reach_rng h.2 W;unfold RN.reach;split<;>omega
theorem RN.ready_ok {m d n x y:Int} (hm:an m)(hn:an n)(hx:an x)(hy:ai y):(RN.ready m d n x y).ok:=by
 unfold RN.ready;split
 ·exact⟨LN.zero_ok,hx,hy,hn⟩
 ·split
  ·exact⟨⟨hx,hy,hm⟩,hx,jF _,hn⟩
  ·exact⟨LN.zero_ok,hx,hy,by simp⟩
theorem RN.start_ok {m d n x y:Int} (hm:an m)(hd:0<=d)(hn:an n)(hx:0<=x/\x<=Mc)(hy:ai y):(RN.start m d n x y).ok:=by
 unfold RN.start;split
 ·rename_i h;have:=(gk (show kd m d n≠0 by omega)).2.2;exact⟨LN.zero_ok,⟨by simp;omega,by simp;omega⟩,hy,hn⟩
 ·exact RN.ready_ok hm hn ⟨hx.1,by omega⟩ hy
def LN.small (l:LN):Prop:=fd l.Y l.M/\(0<=l.X/\l.X<=Ma)
theorem LN.small_ok {l:LN} (h:l.small):l.ok:=⟨h.2,wJ h.1,by have:=h.1.2;omega⟩
theorem LN.at_mono {l:LN} (h:l.small) {x y:Int} (hxy:x<=y)(hy:y<=Ma):l.at x<=l.at y:=by
 unfold LN.at;rw[iC h.1 h.2.1 ρa,iC h.1 h.2.1 hy];have h1:=h.1.2.1;(repeat' split)
 ·omega
 ·have:=Int.mul_nonneg h1 (show 0<=y - l.X by omega);omega
 ·omega
 ·have:=qU (show x - l.X<=y - l.X by omega) h1;omega
theorem LN.reach_iff {l:LN} (h:l.small) {W x:Int} (hW:0<=W)(hx:0<=x)(Uk:x<Mc):l.reach W<=x↔W<=l.at x:=by
 have hr:=LN.reach_rng (LN.small_ok h) W;by_cases hn:l.reach W=Mc
 ·refine⟨λh1=>by omega,λh1=>?_⟩;exfalso
  -- at no tick below 2^63
  by_cases h0:W<=l.Y
  ·unfold LN.reach lr at hn;rw[qP h0] at hn;omega
  ·unfold LN.reach lr at hn;rw[qI h0] at hn;unfold LN.at at h1;rw[iC h.1 h.2.1 ρa] at h1;split at h1
   ·omega
   ·unfold ov at hn;by_cases hM:l.M=0
    ·rw[hM] at h1;omega
    ·have hM1:1<=l.M:=by have:=h.1.2.1;omega
     have hu:=ig (s:=W - l.Y) ρa hM1;have h3:=hu.2.1 ρa;split at hn
     ·have:=qU (show x - l.X<=up (W - l.Y) l.M - 1 by omega) (show 0<=l.M by omega);omega
     ·omega
 ·have hs:=wZ h.1 h.2 hW hn;constructor
  ·intro h1;exact Int.le_trans hs.1 (LN.at_mono h h1 ρa)
  ·intro h1;by_cases hc:l.reach W<=x
   ·exact hc
   ·exfalso;have h2:=hs.2 (show 0<lr l.X l.Y l.M W by unfold LN.reach at hc;omega);have h3:=LN.at_mono h (x:=x) (y:=l.reach W - 1) ρa ρa;unfold LN.reach LN.at at*;omega
def RN.small (r:RN):Prop:=r.f.small/\r.t.small
theorem RN.small_ok {r:RN} (h:r.small):r.ok:=⟨LN.small_ok h.1,LN.small_ok h.2⟩
theorem RN.reach_iff {r:RN} (h:r.small) {W x:Int} (hW:0<=W)(hx:0<=x)(Uk:x<Mc):r.reach W<=x↔W<=r.at x:=by have h1:=LN.reach_iff h.1 hW hx Uk;have h2:=LN.reach_iff h.2 hW hx Uk;unfold RN.reach RN.at;(repeat' split)<;>omega
@[go_sem] abbrev ou:Array ϗ:=#[Ky,Ky,Ky,Ky,Ky,Ky,Ky,Ky,dO]
@[go_sem] abbrev gd (r:RN):Array ϗ:=#[r.f.X,(hi (r.f.Y)),(lo (r.f.Y)),r.f.M,r.t.X,(hi (r.t.Y)),(lo (r.t.Y)),r.t.M,β r.b]
@[go_sem] abbrev mf:Array ϗ:=#[dO,Ky,Ky,Ky,Ky,Ky,Ky,Ky,Ky,dO,Ky]
@[go_sem] abbrev eX (h:Bool) (r:RN) (t:Int):Array ϗ:=#[β h,r.f.X,(hi (r.f.Y)),(lo (r.f.Y)),r.f.M,r.t.X,(hi (r.t.Y)),(lo (r.t.Y)),r.t.M,β r.b,t]
@[go_sem] abbrev nt:Array ϗ:=#[dO,Ky,Ky,Ky,Ky,Ky,Ky,Ky,Ky,dO,Ky,Ky,Ky,Ky,Ky,Ky,Ky,Ky,dO,Ky,Ky,Ky]
@[go_sem] abbrev dG (h:Bool) (r q:RN) (p e t:Int):Array ϗ:=#[β h,r.f.X,(hi (r.f.Y)),(lo (r.f.Y)),r.f.M,r.t.X,(hi (r.t.Y)),(lo (r.t.Y)),r.t.M,β r.b,q.f.X,(hi (q.f.Y)),(lo (q.f.Y)),q.f.M,q.t.X,(hi (q.t.Y)),(lo (q.t.Y)),q.t.M,β q.b,p,e,t]
theorem Ga {m d n:Int} (hm:0<=m)(hd:0<=d)(hn:0<=n)(h:kd m d n=1):m=0/\d=0/\n=0:=by unfold kd at h;(repeat' split at h)<;>omega
theorem Gb {m d n:Int} (h:kd m d n=2):d=0/\m=n:=by unfold kd at h;(repeat' split at h)<;>omega
theorem yq {m d n:Int} (h:kd m d n=3):0<d/\n<m:=by unfold kd at h;(repeat' split at h)<;>omega
theorem Gc {m d n:Int} (h:kd m d n=4):0<d/\m=0/\0<n:=by unfold kd at h;(repeat' split at h)<;>omega
def dk (m d n:Int):Prop:=kd m d n≠0/\(0<=m/\m<=Md)/\(0<=d/\d<=1048576)/\(0<=n/\n<=Md)
theorem dk.of {m d n:Int} (hm:0<=m)(hd:0<=d)(hn:0<=n)(h:kd m d n≠0):dk m d n:=by have:=gk h;exact⟨h,by omega,by omega,by omega⟩
def vS (x y:Int):Prop:=(0<=x/\x<Mc)/\(0<=y/\y<19807040628566084398385987584)
theorem gC {X Y M:Int} (h1:0<=Y/\Y<1267650600228229401496703205376)(h2:0<=M/\M<68719476736)(h3:an X):LN.small ⟨X,Y,M⟩:=⟨⟨h1,h2⟩,h3⟩
theorem ii:LN.zero.small:=gC ρa ρa ρa
theorem lI {m d n:Int} (hc:dk m d n)(h:n<=m):0<=(m - n)*d/\(m - n)*d<=4503599626321920:=by obtain⟨_,hm,hd,hn⟩:=hc;refine⟨Int.mul_nonneg ρa hd.1,?_⟩;have:=Int.mul_le_mul (show m - n<=Md by omega) hd.2 hd.1 ρa;omega
theorem iy {m d n x y:Int} (hc:dk m d n)(hf:vS x y)(h:n<=m):bh (y+(m - n)*d)=y+(m - n)*d:=by have:=lI hc h;unfold vS at hf;exact fI ρz
theorem fK {m d n x y:Int} (hc:dk m d n)(hf:vS x y):(RN.ready m d n x y).small:=by
 have RQ:=hc;obtain⟨_,hm,hd,hn⟩:=RQ;have QO:=hf;unfold vS at QO;unfold RN.ready;split
 ·exact⟨ii,gC ρa ρa ρa⟩
 ·split
  ·rename_i h;have h3:=(yq h).2;have hp:=lI hc ρa;rw[iy hc hf ρa];exact⟨gC ρa ρa ρa,gC ρa ρa ρa⟩
  ·exact⟨ii,gC ρa ρa ρa⟩
theorem bj {m d n x y:Int} (hc:dk m d n)(hf:vS x y):(RN.start m d n x y).small:=by
 unfold RN.start;split
 ·obtain⟨_,hm,hd,hn⟩:=hc;unfold vS at hf;exact⟨ii,gC ρa ρa ρa⟩
 ·exact fK hc hf
theorem LN.at_lo {l:LN} {x:Int} (h:x<=l.X):l.at x=l.Y:=by unfold LN.at la;rw[qP h]
theorem LN.at_from {l:LN} (h:l.small) {x:Int} (h1:l.X<=x)(h2:x<=Ma):l.at x=l.Y+l.M*(x - l.X):=jE h.1 h.2.1 h2 h1
theorem RN.at_t {r:RN} (h:r.b=false)(x:Int):r.at x=r.t.at x:=by unfold RN.at;simp[h]
theorem RN.at_le_t (r:RN)(x:Int):r.at x<=r.t.at x:=by unfold RN.at;(repeat' split)<;>omega
theorem RN.at_le_f (r:RN)(h:r.b=true)(x:Int):r.at x<=r.f.at x:=by unfold RN.at;simp only[h,if_true];split<;>omega
theorem pQ {m d n x y t:Int} (hc:dk m d n)(hf:vS x y)(ht:Ba t):(RN.start m d n x y).at (x+t)=y+sv m d n t:=by
 have hs:=bj hc hf;have RQ:=hc;obtain⟨hk,hm,hd,hn⟩:=RQ;have QO:=hf;unfold vS at QO;unfold RN.start at hs ⊢;by_cases h4:kd m d n=4
 ·rw[qP h4] at hs ⊢;obtain⟨h1,rfl,h3⟩:=Gc h4;rw[RN.at_t rfl];unfold sv;split
  ·rw[LN.at_lo ρO];simp only[];omega
  ·rw[LN.at_from hs.2 ρO ρa];simp only[];rw[show x+t - (x+d)=t - d by omega];omega
 rw[qI h4] at hs ⊢;unfold RN.ready at hs ⊢;by_cases h3:kd m d n=3
 ·rw[qI ρa,qP h3] at hs ⊢;have hp:=yq h3;have e1:=LN.at_from (x:=x+t) hs.1 ρO ρa;have e2:=LN.at_from (x:=x+t) hs.2 ρO ρa;simp only[iy hc hf (show n<=m by omega),show x+t - x=t by omega] at e1 e2;unfold RN.at;simp only[if_true,iy hc hf (show n<=m by omega)];rw[e1,e2,ux];have q:m*t=n*t+(m - n)*t:=by rw[Int.sub_mul];omega
  rcases Int.le_total t d with h|h
  ·have:=qU h (show 0<=m - n by omega);rw[Int.min_eq_left h];split<;>omega
  ·have:=qU h (show 0<=m - n by omega);rw[Int.min_eq_right h];split<;>omega
 ·have hlin:sv m d n t=n*t:=by
   have:kd m d n=1\/kd m d n=2:=by have:=eP m d n;omega
   rw[ux];rcases this with h|h
   ·obtain⟨rfl,rfl,rfl⟩:=Ga hm.1 hd.1 hn.1 h;simp
   ·obtain⟨rfl,rfl⟩:=Gb h;simp
  rw[hlin];by_cases h2:kd m d n=2
  ·rw[qP (.inl h2)] at hs ⊢;rw[RN.at_t rfl,LN.at_from hs.2 ρO ρa];simp only[show x+t - x=t by omega]
  ·rw[qI ρa,qI h3] at hs ⊢;obtain⟨rfl,rfl,rfl⟩:=Ga hm.1 hd.1 hn.1 (show kd m d n=1 by have:=eP m d n;omega);rw[RN.at_t rfl,LN.at_from hs.2 ρO ρa];simp
theorem iH {m d n x y:Int} (h:kd m d n≠4):RN.ready m d n x y=RN.start m d n x y:=by unfold RN.start;rw[qI h]
theorem jJ {m d n x y:Int} (h:kd m d n=4):RN.ready m d n x y=⟨LN.zero,⟨x,y,n⟩,false⟩:=by unfold RN.ready;rw[qP (.inr h)]
theorem pN {m d n x y:Int} (h:kd m d n=4):RN.start m d n x y=⟨LN.zero,⟨x+d,y,n⟩,false⟩:=by unfold RN.start;rw[qP h]
theorem LN.low_at {a b:LN} (ha:a.small)(hb:b.small)(hM:a.M=b.M) {x:Int} (h1:a.X<=x)(h2:b.X<=x)(hx:x<=Ma):(LN.low a b).at x=min (a.at x) (b.at x):=by
 obtain⟨Xa,Ya,M⟩:=a;obtain⟨Xb,Yb,M'⟩:=b;simp only[] at hM h1 h2;subst hM;have:=yw (x:=x) ha.1 hb.1 ha.2.1 hb.2.1 h1 h2 hx;unfold LN.low LN.lowB LN.at;simp only[] at this ⊢;rcases h:Go.Proofs.YtfdlemkplejdnaaGreat.lowB Xa Ya M Xb Yb M with _|_
 ·have:=this.2 h;rw[qI ρp,Int.min_eq_left this]
 ·have:=this.1 h;rw[qP rfl,Int.min_eq_right this]
theorem LN.low_small {a b:LN} (ha:a.small)(hb:b.small):(LN.low a b).small:=by unfold LN.low;split<;>assumption
theorem RN.meet_small {a b:RN} (ha:a.small)(hb:b.small):(RN.meet a b).small:=by
 refine⟨?_,LN.low_small ha.2 hb.2⟩;show (if a.b then LN.low a.f b.f else LN.zero).small;split
 ·exact LN.low_small ha.1 hb.1
 ·exact ii
def RN.alike (r s:RN):Prop:=r.b=s.b/\(r.b=true->r.f.M=s.f.M)/\r.t.M=s.t.M
def RN.begun (r:RN)(x:Int):Prop:=(r.b=true->r.f.X<=x)/\r.t.X<=x
theorem RN.meet_at {r s:RN} (hr:r.small)(hs:s.small)(h:r.alike s) {x:Int} (h1:r.begun x)(h2:s.begun x)(hx:x<=Ma):(RN.meet r s).at x=min (r.at x) (s.at x):=by
 have et:=LN.low_at hr.2 hs.2 h.2.2 h1.2 h2.2 hx;unfold RN.meet RN.at;simp only[];rw[et];rcases hb:r.b with _|_
 ·have f':s.b=false:=by rw[<- h.1];exact hb
  simp[f']
 ·have f':s.b=true:=by rw[<- h.1];exact hb
  have ef:=LN.low_at hr.1 hs.1 (h.2.1 hb) (h1.1 hb) (h2.1 f') hx;simp only[f',if_true];rw[ef];(repeat' split)<;>omega
def RN.main (r:RN):LN:=if r.b then r.f else r.t
theorem RN.at_le_main (r:RN)(x:Int):r.at x<=r.main.at x:=by
 unfold RN.main;split
 ·rename_i h;exact RN.at_le_f r h x
 ·exact RN.at_le_t r x
theorem bJ (m d n x y x' y':Int):(RN.start m d n x y).alike (RN.start m d n x' y'):=by unfold RN.start RN.ready;(repeat' split)<;>exact⟨rfl,λ_=>rfl,rfl⟩
theorem rZ {m d n x y t:Int} (h:x<=t):(RN.ready m d n x y).begun t:=by
 unfold RN.ready;split
 ·exact⟨(λh=>(by cases h)),h⟩
 ·split
  ·exact⟨λ_=>h,h⟩
  ·exact⟨(λh=>(by cases h)),h⟩
theorem mM {m d n x y:Int}:(RN.start m d n x y).main=⟨if kd m d n=4 then x+d else x,y,(RN.start m d n x y).main.M⟩:=by
 unfold RN.start RN.ready;by_cases h4:kd m d n=4
 ·simp[h4,RN.main]
 ·by_cases h3:kd m d n=3
  ·simp[h3,RN.main]
  ·by_cases h2:kd m d n=2
   ·simp[h2,RN.main]
   ·simp[h2,h3,h4,RN.main]
theorem gZ (m d n x y:Int):(RN.start m d n x y).main.X=if kd m d n=4 then x+d else x:=qG LN.X (mM (m:=m) (d:=d) (n:=n) (x:=x) (y:=y))
theorem jN (m d n x y:Int):(RN.start m d n x y).main.Y=y:=qG LN.Y (mM (m:=m) (d:=d) (n:=n) (x:=x) (y:=y))
theorem gY {m d n x y t:Int} (h:(RN.start m d n x y).main.X<=t):(RN.start m d n x y).begun t:=by
 by_cases h4:kd m d n=4
 ·rw[pN h4] at h ⊢;exact⟨(λh=>(by cases h)),h⟩
 ·rw[gZ,qI h4] at h;rw[<- iH h4];exact rZ h
structure WN where
 (at_ p:Int)
def WN.ok (v:WN):Prop:=vS v.at_ (v.p*65536)
def WN.start (m d n:Int)(v:WN):RN:=RN.start m d n v.at_ (v.p*65536)
def WN.ready (m d n:Int)(v:WN):RN:=RN.ready m d n v.at_ (v.p*65536)
theorem iz {r s t:RN} (h1:r.alike s)(h2:s.alike t):r.alike t:=⟨h1.1.trans h2.1,λh=>(h1.2.1 h).trans (h2.2.1 (by rw[<- h1.1];exact h)),h1.2.2.trans h2.2.2⟩
theorem jd {r s:RN} (h:r.alike s):s.alike r:=⟨h.1.symm,λhb=>(h.2.1 (by rw[h.1];exact hb)).symm,h.2.2.symm⟩
theorem mu {r s t:RN} (h1:r.alike t)(h2:s.alike t):(RN.meet r s).alike t:=by
 refine⟨h1.1,λhb=>?_,?_⟩
 ·have f':r.b=true:=hb;show (if r.b then LN.low r.f s.f else LN.zero).M=t.f.M;rw[qP f'];unfold LN.low;split
  ·exact h2.2.1 (by rw[h2.1,<- h1.1];exact f')
  ·exact h1.2.1 f'
 ·show (LN.low r.t s.t).M=t.t.M;unfold LN.low;split
  ·exact h2.2.2
  ·exact h1.2.2
theorem tX {r s:RN} {x:Int} (h:r.alike s)(h1:r.begun x)(h2:s.begun x):(RN.meet r s).begun x:=by
 refine⟨λhb=>?_,?_⟩
 ·have f':r.b=true:=hb;show (if r.b then LN.low r.f s.f else LN.zero).X<=x;rw[qP f'];unfold LN.low;split
  ·exact h2.1 (by rw[<- h.1];exact f')
  ·exact h1.1 f'
 ·show (LN.low r.t s.t).X<=x;unfold LN.low;split
  ·exact h2.2
  ·exact h1.2
def WN.val (m d n x:Int)(v:WN):Int:=v.p*65536+sv m d n (x - v.at_)
def lst (m d n x:Int)(w:WN)(l:List WN):Int:=l.foldl (λa v=>if v.val m d n x<a then v.val m d n x else a) (w.val m d n x)
def ir (m d n:Int)(ws:List WN)(r:RN):Prop:=r.small/\r.alike (RN.start m d n 0 0)/\(∃v ∈ ws,r.t=(v.start m d n).t)/\(r.b=true->∃v ∈ ws,r.f=(v.start m d n).f)
theorem ir.one {m d n:Int} (hc:dk m d n) {v:WN} (hv:v.ok):ir m d n [v] (v.start m d n):=
 ⟨bj hc hv,bJ ..,⟨v,qS.2 rfl,rfl⟩,λ_=>⟨v,qS.2 rfl,rfl⟩⟩
theorem ir.meet {m d n:Int} (hc:dk m d n) {ws:List WN} {r:RN} (h:ir m d n ws r) {v:WN} (hv:v.ok):ir m d n (ws++[v]) (RN.meet r (v.start m d n)):=by
 obtain⟨h1,h2,⟨u,hu,h3⟩,h4⟩:=h;refine⟨RN.meet_small h1 (bj hc hv),mu h2 (bJ ..),?_,λhb=>?_⟩
 ·show ∃v' ∈ ws++[v],LN.low r.t (v.start m d n).t=(v'.start m d n).t;unfold LN.low;split
  ·exact⟨v,by simp,rfl⟩
  ·exact⟨u,by simp[hu],h3⟩
 ·have f':r.b=true:=hb;show ∃v' ∈ ws++[v],(if r.b then LN.low r.f (v.start m d n).f else LN.zero)=(v'.start m d n).f;rw[qP f'];obtain⟨u',UZ,h5⟩:=h4 f';unfold LN.low;split
  ·exact⟨v,by simp,rfl⟩
  ·exact⟨u',by simp[UZ],h5⟩
def WN.asked (m d n x:Int)(v:WN):Int:=if v.at_<x then v.val m d n x else v.p*65536
theorem iL {m d n x:Int} (hc:dk m d n)(v:WN)(hv:v.ok)(hx:x<=Mb):(v.start m d n).at x=v.asked m d n x:=by
 have hv':=hv;unfold WN.ok vS at hv';unfold WN.asked;split
 ·have:=pQ (t:=x - v.at_) hc hv ρa;unfold WN.start WN.val;rw[<- this,show v.at_+(x - v.at_)=x by omega]
 ·have hs:=bj hc hv;obtain⟨hk,hm,hd,hn⟩:=hc;unfold WN.start RN.start RN.ready at*;by_cases h4:kd m d n=4
  ·rw[qP h4] at hs ⊢;rw[RN.at_t rfl,LN.at_lo ρO]
  rw[qI h4] at hs ⊢;by_cases h3:kd m d n=3
  ·rw[qI ρa,qP h3] at hs ⊢;have hp:=yq h3;have hq:=lI ⟨hk,hm,hd,hn⟩ (show n<=m by omega);unfold RN.at;simp only[if_true];rw[LN.at_lo ρO,LN.at_lo ρO];simp only[iy ⟨hk,hm,hd,hn⟩ hv (show n<=m by omega)];split<;>omega
  ·by_cases h2:kd m d n=2
   ·rw[qP (.inl h2)] at hs ⊢;rw[RN.at_t rfl,LN.at_lo ρO]
   ·rw[qI ρa,qI h3] at hs ⊢;rw[RN.at_t rfl,LN.at_lo ρO]
theorem tO {m d n x:Int} (hc:dk m d n) {ws:List WN} {r:RN} (h:ir m d n ws r)(QX:∀v ∈ ws,v.ok)(hx:x<=Mb):∃v ∈ ws,v.asked m d n x<=r.at x:=by
 obtain⟨h1,h2,⟨u,hu,h3⟩,h4⟩:=h;have ht:u.asked m d n x<=r.t.at x:=by rw[<- iL hc u (QX u hu) hx,h3];exact RN.at_le_t _ _
 unfold RN.at;split
 ·rename_i hb;obtain⟨u',UZ,h5⟩:=h4 hb;have hf:u'.asked m d n x<=r.f.at x:=by
   have f':(u'.start m d n).b=true:=ηB
   rw[<- iL hc u' (QX u' UZ) hx,h5];exact RN.at_le_f _ f' _
  split
  ·exact⟨u',UZ,hf⟩
  ·exact⟨u,hu,ht⟩
 ·exact⟨u,hu,ht⟩
theorem wu {m d n P:Int} (hc:dk m d n) {ws:List WN} {r:RN} (h:ir m d n ws r)(QX:∀v ∈ ws,v.ok/\v.p<=P):r.at 0<=P*65536:=by
 obtain⟨h1,h2,⟨u,hu,h3⟩,h4⟩:=h;have hm:=RN.at_le_main r 0;have e:∃v ∈ ws,r.main=(v.start m d n).main:=by
  unfold RN.main;split
  ·rename_i hb;obtain⟨u',UZ,h5⟩:=h4 hb;have f':(u'.start m d n).b=true:=ηB
   exact⟨u',UZ,by rw[qP f'];exact h5⟩
  ·rename_i hb;have f':(u.start m d n).b=false:=by
    have e1:r.b=(RN.start m d n 0 0).b:=h2.1;have e2:(u.start m d n).b=(RN.start m d n 0 0).b:=(bJ ..).1;rw[e2,<- e1];simpa using hb
   exact⟨u,hu,by rw[f'];simpa using h3⟩
 obtain⟨v,hv,e⟩:=e;have hv':=(QX v hv).1;unfold WN.ok vS at hv';have hd:=hc.2.2.1.1;rw[e] at hm;unfold WN.start at hm;rw[LN.at_lo (by rw[gZ];split<;>omega),jN] at hm;have:=(QX v hv).2;omega
def lP (m d n:Int)(D E:RN):Prop:=D.small/\E.small/\(kd m d n≠4->D=E)/\(kd m d n=4->D.b=false/\E.b=false/\D.t=⟨E.t.X+d,E.t.Y,E.t.M⟩/\E.t.M=n)
theorem lP.one {m d n:Int} (hc:dk m d n)(v:WN)(hv:v.ok):lP m d n (v.start m d n) (v.ready m d n):=by refine⟨bj hc hv,fK hc hv,λh=>(iH h).symm,λh=>?_⟩;unfold WN.start WN.ready;rw[pN h,jJ h];exact⟨rfl,rfl,rfl,rfl⟩
theorem wI {a b:LN} {n d:Int} (hd:lg d)(ha:a.small)(hb:b.small)(hna:a.M=n)(hnb:b.M=n)(sa:LN.small ⟨a.X+d,a.Y,a.M⟩)(sb:LN.small ⟨b.X+d,b.Y,b.M⟩):
  LN.lowB ⟨a.X+d,a.Y,a.M⟩ ⟨b.X+d,b.Y,b.M⟩=LN.lowB a b:=by
 obtain⟨xa,ya,M⟩:=a;obtain⟨xb,yb,M'⟩:=b;simp only[] at hna hnb;subst hna hnb;have P9:=ha.2;have f':=hb.2;have sa':=sa.2;have sb':=sb.2;simp only[] at P9 f' sa' sb';have e1:=LN.at_from (x:=max (xa+d) (xb+d)) sa ρO ρa;have e2:=LN.at_from (x:=max (xa+d) (xb+d)) sb ρO ρa;have e3:=LN.at_from (x:=max xa xb) ha ρO ρa;have e4:=LN.at_from (x:=max xa xb) hb ρO ρa;unfold LN.lowB Go.Proofs.YtfdlemkplejdnaaGreat.lowB;unfold LN.at at e1 e2 e3 e4;simp only[] at e1 e2 e3 e4 ⊢;rw[e1,e2,e3,e4,show max (xa+d) (xb+d) - (xa+d)=max xa xb - xa by omega,show max (xa+d) (xb+d) - (xb+d)=max xa xb - xb by omega]
theorem lP.meet {m d n:Int} (hc:dk m d n) {D E:RN} (h:lP m d n D E)(v:WN)(hv:v.ok):lP m d n (RN.meet D (v.start m d n)) (RN.meet E (v.ready m d n)):=by
 obtain⟨h1,h2,h3,h4⟩:=h;refine⟨RN.meet_small h1 (bj hc hv),RN.meet_small h2 (fK hc hv),λhk=>?_,λhk=>?_⟩
 ·rw[h3 hk];unfold WN.start WN.ready;rw[iH hk]
 ·obtain⟨g1,g2,g3,g4⟩:=h4 hk;refine⟨g1,g2,?_,?_⟩
  ·show LN.low D.t (v.start m d n).t=⟨(LN.low E.t (v.ready m d n).t).X+d,(LN.low E.t (v.ready m d n).t).Y,(LN.low E.t (v.ready m d n).t).M⟩;have ss:=bj hc hv;have sr:=fK hc hv;unfold WN.start WN.ready;rw[pN hk] at ss ⊢;rw[jJ hk] at sr ⊢;have h1t:=h1.2;rw[g3] at h1t ⊢;have:=wI (n:=n) (d:=d) (a:=E.t) (b:=⟨v.at_,v.p*65536,n⟩) hc.2.2.1 h2.2 sr.2 g4 rfl h1t ss.2;unfold LN.low;simp only[] at this ⊢;rw[this];split<;>rfl
  ·show (LN.low E.t (v.ready m d n).t).M=n;unfold LN.low WN.ready;rw[jJ hk];split
   ·rfl
   ·exact g4
theorem lP.le {m d n:Int} (hc:dk m d n) {D E:RN} (h:lP m d n D E) {x:Int} (hx:x<=Mc):D.at x<=E.at x:=by
 obtain⟨h1,h2,h3,h4⟩:=h;by_cases hk:kd m d n=4
 ·obtain⟨g1,g2,g3,g4⟩:=h4 hk;rw[RN.at_t g1,RN.at_t g2];have hd:=hc.2.2.1;have s1:=h1.2;have s2:=h2.2;rw[g3] at s1 ⊢;have hM:=s2.1.2.1;by_cases c1:x<=E.t.X+d
  ·rw[LN.at_lo (l:=⟨E.t.X+d,E.t.Y,E.t.M⟩) c1];simp only[];by_cases c2:x<=E.t.X
   ·rw[LN.at_lo c2];exact qJ _
   ·rw[LN.at_from s2 ρa ρa];have:=Int.mul_nonneg hM (show 0<=x - E.t.X by omega);omega
  ·rw[LN.at_from s1 ρO ρa,LN.at_from s2 ρa ρa];simp only[];have:=qU (show x - (E.t.X+d)<=x - E.t.X by omega) hM;omega
 ·rw[h3 hk];exact qJ _
theorem lP.elig {m d n:Int} (hc:dk m d n) {D E:RN} (h:lP m d n D E) {W W':Int} (hW:0<=W)(hWW:W<=W'):E.reach W<=D.reach W':=by
 have r1:=RN.reach_rng (RN.small_ok h.1) W';have r2:=RN.reach_rng (RN.small_ok h.2.1) W;by_cases hn:D.reach W'=Mc
 ·omega
 ·have i1:=RN.reach_iff (x:=D.reach W') h.1 (show 0<=W' by omega) r1.1 ρa;have i2:=RN.reach_iff (x:=D.reach W') h.2.1 hW r1.1 ρa;have:=h.le hc (x:=D.reach W') ρa;rw[i2];have:=i1.1 (qJ _);omega
theorem rW {m d n:Int} (hc:dk m d n) {ws:List WN} {r:RN} (h:ir m d n ws r) {P W:Int} (hP:0<=P)(QX:∀v ∈ ws,v.ok/\v.p<=P)(hW:P*65536<W):1<=r.reach W/\∃v ∈ ws,v.asked m d n (r.reach W - 1)<W:=by
 have r1:=RN.reach_rng (RN.small_ok h.1) W;have hz:=wu hc h QX;have h1:1<=r.reach W:=by have:=RN.reach_iff (x:=0) h.1 (show 0<=W by omega) ρa ρa;omega
 refine⟨h1,?_⟩;have:=RN.reach_iff (x:=r.reach W - 1) h.1 (show 0<=W by omega) ρa ρa;obtain⟨v,hv,QT⟩:=tO (x:=r.reach W - 1) hc h (λv hv=>(QX v hv).1) ρa;exact⟨v,hv,by omega⟩
abbrev Im (l:LN):ϗ:=lv l.X l.Y l.M
abbrev bW (r:RN):ϗ:=φ #[ι υ r.f.X,ι υ (hi (r.f.Y)),ι υ (lo (r.f.Y)),ι υ r.f.M,ι υ r.t.X,ι υ (hi (r.t.Y)),ι υ (lo (r.t.Y)),ι υ r.t.M,β r.b]
theorem Ic (a x b p:Int)(w:ϖ)(ha:an a)(hb:an b)(hx:x=a)(hp:a*b=p):
  CB 211 #[x,b] w (wv p):=by subst hx;exact gF x b p w ha hb hp
theorem pZ:hi 0=0:=by decide
theorem JG:lo 0=0:=by decide
theorem vH (x y n:Int):Value.agg #[Ky,Ky,Ky,Ky,x,(hi y),(lo y),n,dO]=bW ⟨LN.zero,⟨x,y,n⟩,false⟩:=by simp only[bW,LN.zero,pZ,JG]
theorem xd (m d n x y k:Int)(w:ϖ)(hm:an m)(hd:an d)(hn:an n)(hk:kd m d n=k)(k2:(k==2)=true):
  CB 206 #[φ (aH m d n),x,wv y] w (φ #[Ky,Ky,Ky,Ky,x,(hi (y)),(lo (y)),n,dO]):=by
 have Hk:=ag hk;clear hk;unfold CB;go_in;go_wp2_with fail;refine δs ?_;refine δF ?_;intro w1 C1 Y1 R1 g1 KN;have Rr:=θ3 C1.r Y1.r R1.r;go_wp2;exact Eb (w+1+1) #[Ky,Ky,Ky,Ky,x,(hi (y)),(lo (y)),n,dO] 236 rfl σ6
theorem uk (m d n x y k:Int)(w:ϖ)(hm:an m)(hd:an d)(hn:an n)(hk:kd m d n=k)(k2:(k==2)=false)(k4:(k==4)=true):
  CB 206 #[φ (aH m d n),x,wv y] w (φ #[Ky,Ky,Ky,Ky,x,(hi (y)),(lo (y)),n,dO]):=by
 have Hk:=ag hk;clear hk;unfold CB;go_in;go_wp2_with fail;refine δs ?_;refine δF ?_;intro w1 C1 Y1 R1 g1 KN;have Rr:=θ3 C1.r Y1.r R1.r;go_wp2;exact Eb (w+1+1) #[Ky,Ky,Ky,Ky,x,(hi (y)),(lo (y)),n,dO] 236 rfl σ6
theorem xc (m d n x y k:Int)(w:ϖ)(hm:an m)(hd:an d)(hn:an n)(hk:kd m d n=k)(k2:(k==2)=false)(k4:(k==4)=false)(k3:(k==3)=false):
  CB 206 #[φ (aH m d n),x,wv y] w (φ #[Ky,Ky,Ky,Ky,x,(hi (y)),(lo (y)),Ky,dO]):=by
 have Hk:=ag hk;clear hk;unfold CB;go_in;go_wp2_with fail;refine δs ?_;refine δF ?_;intro w1 C1 Y1 R1 g1 KN;have Rr:=θ3 C1.r Y1.r R1.r;go_wp2;exact Eb (w+1+1) #[Ky,Ky,Ky,Ky,x,(hi (y)),(lo (y)),Ky,dO] 236 rfl σ6
theorem ze (m d n x y p s:Int)(o:Bool)(w:ϖ)(hm:an m)(hd:an d)(hn:an n)(hy:ai y)(hk:kd m d n=3)(Qc:n<=m)(hp:(m - n)*d=p)(p1:ai p)(hs:bh (y+p)=s)(ho:decide (340282366920938463463374607431768211456<=y+p)=o):
  CB 206 #[φ (aH m d n),x,wv y] w (φ #[x,(hi (y)),(lo (y)),m,x,(hi (s)),(lo (s)),n,fF]):=by
 have Hk:=ag hk;clear hk;have Hw:=ag (show IntKind.u64.wrap (m - n)=m - n from qZ _ ⟨by omega,by omega⟩);have Hp:=ag hp;have Hs:=ag hs;have Ho:=ag ho;clear hp hs ho;unfold CB;go_in;go_wp2_with fail;refine(bS m d n 3 _ hm.1 hd.1 hn.1 Hk.out).mono ?_;refine δF ?_;intro w1 C1 Y1 R1 g1 KN;replace cC:=C1.cell;replace fC:=C1.frozen;replace zC:=C1.size;replace cY:=Y1.cell;replace fY:=Y1.frozen;replace zY:=Y1.size;have Rr:=R1.r;go_upto_region 6 with (fail);go_cut [7,8] (λp7 p8 wx=>∃X:Nat,p7=X/\p8=β o/\Below w w wx/\ah wx w (aH m d n) 41/\ah wx (w+1) (mV y) 232/\ah wx (w+1+1) ou 236/\ah wx X (mV s) 232);case first=>
  go_region_held3 (λv=>Bk v w (aH m d n) 41/\Bk v (w+1) (mV y) 232/\Below w w v) (exact ρH)
   (first
    | (go_at_call 211;(with_reducible refine(Ic (m - n) _ d p _ ρa hd τI Hp.out).mono ?_);refine bf ?_;intro w' f' KK KJ;(try have hX:=Xb f');(try simp only[World.size_alloc] at hX);(try have rX:=hX.r);have KT:=R1.tr f';have rR:=KT.r)
    | (go_at_call 249;(with_reducible refine(Dy y p s o _ hy p1 Hs.out Ho.out).mono ?_);refine bf ?_;intro w' f' KK KJ;(try have hX:=Xb f');(try simp only[World.size_alloc] at hX);(try have rX:=hX.r);have KT:=R1.tr f';have rR:=KT.r))
  all_goals
   (try go_split_ands);go_wp2;go_meet;exact⟨_,rfl,rfl,ρE,ρB,ρB,ρB,ρB⟩
 case rest=>
  clear cC fC zC cY fY zY C1 Y1 R1;obtain⟨X,rfl,rfl,g2,C2,Y2,R2,X2⟩:=hcut;have cC:=C2.cell;have cY:=Y2.cell;have cX:=X2.cell;have Ss:=R2.r;have zX:=X2.size;have zC:=C2.size;have zY:=Y2.size;go_wp2;exact Eb (w+1+1) #[x,(hi (y)),(lo (y)),m,x,(hi (s)),(lo (s)),n,fF] 236 rfl σ6
theorem i4 (m d n x y:Int)(r:RN)(w:ϖ)(hm:an m)(hd:an d)(hn:an n)(hy:ai y)(hr:RN.ready m d n x y=r):
  CB 206 #[φ (aH m d n),x,wv y] w (bW r):=by
 unfold RN.ready at hr;by_cases h24:kd m d n=2\/kd m d n=4
 ·rw[qP h24] at hr;subst hr;rw[<- vH];by_cases h2:kd m d n=2
  ·exact xd m d n x y _ w hm hd hn rfl (by simp[h2])
  ·exact uk m d n x y _ w hm hd hn rfl (by simp[h2]) ρF
 ·rw[qI h24] at hr;by_cases h3:kd m d n=3
  ·rw[qP h3] at hr;subst hr;have hk:=gk (show kd m d n≠0 by omega);have hp:=(show 0<d/\n<m by unfold kd at h3;(repeat' split at h3)<;>omega);exact ze m d n x y _ _ _ w hm hd hn hy h3 ρa rfl (iD ρa ρa rfl) rfl rfl
  ·rw[qI h3] at hr;subst hr;rw[<- vH];exact xc m d n x y _ w hm hd hn rfl ρF ρF ρF
theorem Al (m d n x y k:Int)(r:RN)(w:ϖ)(hm:an m)(hd:an d)(hn:an n)(hy:ai y)(hr:RN.ready m d n x y=r)(hk:kd m d n=k)(k4:(k==4)=false):
  CB 205 #[φ (aH m d n),x,wv y] w (bW r):=by
 have Hr:=ag hr;have Hk:=ag hk;clear hr hk;unfold CB;go_in;go_wp2_with fail;refine(i4 m d n x y r _ hm hd hn hy Hr.out).mono ?_;refine δf ?_;intro w1 Kr C1;have R1:ah w1 (w+1+1) ou 236:=Zv Kr;refine η0 ?_;intro g1 KN;clear Kr;have Rr:=θ2 C1.r R1.r;go_wp2_with fail;refine δs ?_;rintro e w2 ⟨rfl,Kx⟩;have C2:=C1.tr Kx;have R2:=R1.tr Kx;have Z2:ah w2 w1 (gd r) 236:=Zv Kx;refine η9 ?_;intro g2 Li;clear Kx;replace Rr:=θ3 C2.r R2.r Z2.r;go_wp2;exact Eb (w+1+1) (gd r) 236 rfl (λ_ cv=>(by simp[results,Tryz.results205,go_sem,cv]))
theorem xt (m d n x y k:Int)(r:RN)(w:ϖ)(hm:an m)(hd:an d)(hn:an n)(hy:ai y)(hr:RN.ready m d n x y=r)(hk:kd m d n=k)(k4:(k==4)=true)(hX:0<=r.t.X+d/\r.t.X+d<=Ma):
  CB 205 #[φ (aH m d n),x,wv y] w (bW ⟨r.f,⟨r.t.X+d,r.t.Y,r.t.M⟩,r.b⟩):=by
 have Hr:=ag hr;have Hk:=ag hk;clear hr hk;have hwr:IntKind.u64.wrap (r.t.X+d)=r.t.X+d:=qZ _ hX;unfold CB;go_in;go_wp2_with fail;refine(i4 m d n x y r _ hm hd hn hy Hr.out).mono ?_;refine δf ?_;intro w1 Kr C1;have R1:ah w1 (w+1+1) ou 236:=Zv Kr;refine η0 ?_;intro g1 KN;clear Kr;have Rr:=θ2 C1.r R1.r;go_wp2_with fail;refine δs ?_;rintro e w2 ⟨rfl,Kx⟩;have C2:=C1.tr Kx;have R2:=R1.tr Kx;have Z2:ah w2 w1 (gd r) 236:=Zv Kx;refine η9 ?_;intro g2 Li;clear Kx;replace Rr:=θ3 C2.r R2.r Z2.r;go_wp2;exact Eb (w+1+1) #[r.f.X,(hi (r.f.Y)),(lo (r.f.Y)),r.f.M,ι υ (r.t.X+d),(hi (r.t.Y)),(lo (r.t.Y)),r.t.M,β r.b] 236 rfl (λ_ cv=>(by simp[results,Tryz.results205,go_sem,cv]))
theorem ew (m d n x y:Int)(r:RN)(w:ϖ)(hm:an m)(hd:an d)(hn:an n)(hx:0<=x/\x<=Mc)(hy:ai y)(hr:RN.start m d n x y=r):
  CB 205 #[φ (aH m d n),x,wv y] w (bW r):=by
 unfold RN.start at hr;by_cases h4:kd m d n=4
 ·rw[qP h4] at hr;have Np:=(gk (show kd m d n≠0 by omega)).2.2;subst hr;have e:RN.ready m d n x y=⟨LN.zero,⟨x,y,n⟩,false⟩:=by unfold RN.ready;rw[qP (.inr h4)]
  exact xt m d n x y _ _ w hm hd hn hy e rfl (by simp[h4]) ⟨by simp only[];omega,by simp only[];omega⟩
 ·rw[qI h4] at hr;exact Al m d n x y _ r w hm hd hn hy hr rfl (by simp[h4])
theorem Eu (a b c:LN)(w:ϖ)(ha:a.ok)(hb:b.ok)(hc:LN.low a b=c):
  CB 248 #[Im a,Im b] w (Im c):=by
 refine BI a.X a.Y a.M b.X b.Y b.M c.X c.Y c.M w ha.1 ha.2.1 ha.2.2 hb.1 hb.2.1 hb.2.2 ?_;subst hc;unfold LN.low LN.lowB;rcases h:Go.Proofs.YtfdlemkplejdnaaGreat.lowB a.X a.Y a.M b.X b.Y b.M with _|_
 ·exact .inr ⟨rfl,by simp⟩
 ·exact .inl ⟨rfl,by simp⟩
theorem tY (a b:RN)(f t:LN)(w:ϖ)(ha:RN.ok a)(hb:RN.ok b)(hbb:a.b=false)(ht:LN.low a.t b.t=t):
  CB 204 #[bW a,bW b] w (φ #[Ky,Ky,Ky,Ky,t.X,(hi (t.Y)),(lo (t.Y)),t.M,dO]):=by
 have Ht:=ag ht;clear ht;have haf:a.f.ok:=ha.1;have MF:a.t.ok:=ha.2;have hbf:b.f.ok:=hb.1;have YL:b.t.ok:=hb.2;rw[bW,hbb];clear hbb;unfold CB;go_in;go_upto_region 1 with (fail);refine aI (λv=>Below w w v/\ah v w #[a.f.X,(hi (a.f.Y)),(lo (a.f.Y)),a.f.M,a.t.X,(hi (a.t.Y)),(lo (a.t.Y)),a.t.M,dO] 236/\ah v (w+1) (gd b) 236/\ah v (w+1+1) ou 236) ⟨ρE,ρB,ρB,ρB⟩ ?_;rintro w0 ⟨g0,A0,B0,R0⟩;have Sa:=g0.size;replace cA:=A0.cell;replace fA:=A0.frozen;replace zA:=A0.size;replace cB:=B0.cell;replace fB:=B0.frozen;replace zB:=B0.size;have Rr:=R0.r;go_cut [5] (λp5 wx=>∃X:Nat,p5=X/\Below w w wx/\ah wx w #[a.f.X,(hi (a.f.Y)),(lo (a.f.Y)),a.f.M,a.t.X,(hi (a.t.Y)),(lo (a.t.Y)),a.t.M,dO] 236/\ah wx (w+1) (gd b) 236/\ah wx (w+1+1) ou 236/\ah wx X #[Ky,Ky,Ky,Ky,t.X,(hi (t.Y)),(lo (t.Y)),t.M,dO] 236/\w.heap.size+1+1<X);case first=>
  go_region_held3 (λv=>Bk v w #[a.f.X,(hi (a.f.Y)),(lo (a.f.Y)),a.f.M,a.t.X,(hi (a.t.Y)),(lo (a.t.Y)),a.t.M,dO] 236/\Bk v (w+1) (gd b) 236/\Below w w v) (exact ρH)
   (first
    | (go_at_call 248;(with_reducible refine(Eu a.t b.t t _ MF YL Ht.out).mono ?_);refine bf ?_;intro w' f' KK KJ;(try have hX:=Xb f');(try simp only[World.size_alloc] at hX);(try have rX:=hX.r);have KT:=R0.tr f';have rR:=KT.r))
  all_goals
   (try go_split_ands);go_wp2;go_meet;exact⟨_,rfl,ρE,ρB,ρB,ρB,ρB,by first|omega|(simp;omega)⟩
 case rest=>
  clear cA fA zA cB fB zB A0 B0 R0;obtain⟨X,rfl,g2,A2,B2,R2,X2,zX0⟩:=hcut;have cA:=A2.cell;have zA:=A2.size;have cB:=B2.cell;have zB:=B2.size;have fX:=X2.frozen;have cX:=X2.cell;have Ss:=R2.r;have zX:=X2.size;go_wp2;exact Eb (w+1+1) #[Ky,Ky,Ky,Ky,t.X,(hi (t.Y)),(lo (t.Y)),t.M,dO] 236 rfl (λ_ cv=>(by simp[results,Tryz.results204,go_sem,cv]))
theorem wM (a b:RN)(f t:LN)(w:ϖ)(ha:RN.ok a)(hb:RN.ok b)(hbb:a.b=true)(ht:LN.low a.t b.t=t)(hf:LN.low a.f b.f=f):
  CB 204 #[bW a,bW b] w (φ #[f.X,(hi (f.Y)),(lo (f.Y)),f.M,t.X,(hi (t.Y)),(lo (t.Y)),t.M,fF]):=by
 have Ht:=ag ht;clear ht;have Hf:=ag hf;clear hf;have haf:a.f.ok:=ha.1;have MF:a.t.ok:=ha.2;have hbf:b.f.ok:=hb.1;have YL:b.t.ok:=hb.2;rw[bW,hbb];clear hbb;unfold CB;go_in;go_upto_region 1 with (fail);refine aI (λv=>Below w w v/\ah v w #[a.f.X,(hi (a.f.Y)),(lo (a.f.Y)),a.f.M,a.t.X,(hi (a.t.Y)),(lo (a.t.Y)),a.t.M,fF] 236/\ah v (w+1) (gd b) 236/\ah v (w+1+1) ou 236) ⟨ρE,ρB,ρB,ρB⟩ ?_;rintro w0 ⟨g0,A0,B0,R0⟩;have Sa:=g0.size;replace cA:=A0.cell;replace fA:=A0.frozen;replace zA:=A0.size;replace cB:=B0.cell;replace fB:=B0.frozen;replace zB:=B0.size;have Rr:=R0.r;go_cut [5] (λp5 wx=>∃X:Nat,p5=X/\Below w w wx/\ah wx w #[a.f.X,(hi (a.f.Y)),(lo (a.f.Y)),a.f.M,a.t.X,(hi (a.t.Y)),(lo (a.t.Y)),a.t.M,fF] 236/\ah wx (w+1) (gd b) 236/\ah wx (w+1+1) ou 236/\ah wx X #[Ky,Ky,Ky,Ky,t.X,(hi (t.Y)),(lo (t.Y)),t.M,fF] 236/\w.heap.size+1+1<X);case first=>
  go_region_held3 (λv=>Bk v w #[a.f.X,(hi (a.f.Y)),(lo (a.f.Y)),a.f.M,a.t.X,(hi (a.t.Y)),(lo (a.t.Y)),a.t.M,fF] 236/\Bk v (w+1) (gd b) 236/\Below w w v) (exact ρH)
   (first
    | (go_at_call 248;(with_reducible refine(Eu a.t b.t t _ MF YL Ht.out).mono ?_);refine bf ?_;intro w' f' KK KJ;(try have hX:=Xb f');(try simp only[World.size_alloc] at hX);(try have rX:=hX.r);have KT:=R0.tr f';have rR:=KT.r))
  all_goals
   (try go_split_ands);go_wp2;go_meet;exact⟨_,rfl,ρE,ρB,ρB,ρB,ρB,by first|omega|(simp;omega)⟩
 case rest=>
  clear cA fA zA cB fB zB A0 B0 R0;obtain⟨X,rfl,g2,A2,B2,R2,X2,zX0⟩:=hcut;have cA:=A2.cell;have zA:=A2.size;have cB:=B2.cell;have zB:=B2.size;have fX:=X2.frozen;have cX:=X2.cell;have Ss:=R2.r;have zX:=X2.size;go_wp2_with fail;refine(Eu a.f b.f f _ haf hbf Hf.out).mono ?_;rintro e w3 ⟨rfl,Lw⟩;have R3:ah w3 (w+1+1) ou 236:=Zv Lw;have X3:ah w3 (X) #[Ky,Ky,Ky,Ky,t.X,(hi (t.Y)),(lo (t.Y)),t.M,fF] 236:=Zv Lw;refine δZ ?_;intro g3 NW;clear Lw;clear Ss;replace Rr:=R3.r;replace cX:=X3.cell;replace fX:=X3.frozen;replace zX:=X3.size;go_upto_region 4 with (fail);refine aI (λv=>Below w w v/\ah v (w+1+1) ou 236/\ah v (X) #[f.X,(hi (f.Y)),(lo (f.Y)),f.M,t.X,(hi (t.Y)),(lo (t.Y)),t.M,fF] 236) ⟨ρE,ρB,ρB⟩ ?_;rintro w4 ⟨g4,R4,X4⟩;have Sc:=g4.size;replace Rr:=R4.r;replace cX:=X4.cell;replace fX:=X4.frozen;replace zX:=X4.size;go_wp2;exact Eb (w+1+1) #[f.X,(hi (f.Y)),(lo (f.Y)),f.M,t.X,(hi (t.Y)),(lo (t.Y)),t.M,fF] 236 rfl (λ_ cv=>(by simp[results,Tryz.results204,go_sem,cv]))
theorem mw (a b r:RN)(w:ϖ)(ha:a.ok)(hb:b.ok)(hr:RN.meet a b=r):
  CB 204 #[bW a,bW b] w (bW r):=by
 subst hr;rcases h:a.b with _|_
 ·have:=tY a b LN.zero _ w ha hb h rfl;refine this.mono λe w' ⟨h1,h2⟩=>⟨h1.trans (lx ?_),h2⟩;simp only[bW,RN.meet,h,LN.zero,pZ,JG,Bool.false_eq_true,if_false]
 ·have:=wM a b _ _ w ha hb h rfl rfl;refine this.mono λe w' ⟨h1,h2⟩=>⟨h1.trans (lx ?_),h2⟩;simp only[bW,RN.meet,h,if_true]
theorem vZ (r:RN)(w:ϖ)(hb:r.b=false):
  CB 260 #[bW r] w (φ #[r.t.X,(hi (r.t.Y)),(lo (r.t.Y)),r.t.M,r.t.X,(hi (r.t.Y)),(lo (r.t.Y)),r.t.M]):=by
 rw[bW,hb];clear hb;unfold CB;go_in;go_wp2;exact Eb (w+1) #[r.t.X,(hi (r.t.Y)),(lo (r.t.Y)),r.t.M,r.t.X,(hi (r.t.Y)),(lo (r.t.Y)),r.t.M] 375 rfl (λ_ cv=>(by simp[results,Tryz.results260,go_sem,cv]))
theorem xU (r:RN)(w:ϖ)(hb:r.b=true):
  CB 260 #[bW r] w (φ #[r.f.X,(hi (r.f.Y)),(lo (r.f.Y)),r.f.M,r.t.X,(hi (r.t.Y)),(lo (r.t.Y)),r.t.M]):=by
 rw[bW,hb];clear hb;unfold CB;go_in;go_wp2;exact Eb (w+1) #[r.f.X,(hi (r.f.Y)),(lo (r.f.Y)),r.f.M,r.t.X,(hi (r.t.Y)),(lo (r.t.Y)),r.t.M] 375 rfl (λ_ cv=>(by simp[results,Tryz.results260,go_sem,cv]))
theorem Bc (r:RN)(g:LN)(w:ϖ)(hg:(if r.b=true then r.f else r.t)=g):
  CB 260 #[bW r] w (φ #[g.X,(hi (g.Y)),(lo (g.Y)),g.M,r.t.X,(hi (r.t.Y)),(lo (r.t.Y)),r.t.M]):=by
 subst hg;rcases h:r.b with _|_
 ·simp only[Bool.false_eq_true,if_false];exact vZ r w h
 ·simp only[if_true];exact xU r w h
theorem vr (l:LN)(W s:Int)(w:ϖ)(h:l.ok)(hW:ai W)(hs:l.reach W=s):
  CB 261 #[Im l,wv W] w s:=EA l.X l.Y l.M W s w h.1 h.2.1 h.2.2 hW hs
theorem xi (r:RN)(g:LN)(W p q s:Int)(w:ϖ)(hg:(if r.b=true then r.f else r.t)=g)(og:g.ok)(ot:r.t.ok)(hW:ai W)(hp:g.reach W=p)(hq:r.t.reach W=q)(p0:0<=p)(q0:0<=q)(hs:s=max p q):
  CB 218 #[bW r,wv W] w s:=by
 have Hg:=ag hg;have Hp:=ag hp;have Hq:=ag hq;have Hs:=ag hs;clear hg hp hq hs;have ix0:∀v,(Instr.index 375 (φ #[g.X,(hi (g.Y)),(lo (g.Y)),g.M,r.t.X,(hi (r.t.Y)),(lo (r.t.Y)),r.t.M]) Kz).run Ψ v=.ok (φ #[g.X,(hi (g.Y)),(lo (g.Y)),g.M]) v:=λ_=>by kernel_rfl
 have ix1:∀v,(Instr.index 375 (φ #[g.X,(hi (g.Y)),(lo (g.Y)),g.M,r.t.X,(hi (r.t.Y)),(lo (r.t.Y)),r.t.M]) Ko).run Ψ v=.ok (φ #[r.t.X,(hi (r.t.Y)),(lo (r.t.Y)),r.t.M]) v:=λ_=>by kernel_rfl
 unfold CB;go_in;go_wp2_with fail;refine(Bc r g _ Hg.out).mono ?_;rintro e w1 ⟨rfl,Kr⟩;have W1:ah w1 (w+1) (mV W) 232:=Zv Kr;refine η0 ?_;intro g1 KN;clear Kr;have Rr:=W1.r;go_wp2;refine wp_loop_rounds 3 ?_;rw[di];go_wp2_with fail;refine(vr g W p _ og hW Hp.out).mono ?_;rintro e w2 ⟨rfl,Kx⟩;have W2:=W1.tr Kx;refine η9 ?_;intro g2 Li;clear Kx;replace Rr:=W2.r;go_wp2
 all_goals
  rw[di];go_wp2_with fail;refine(vr r.t W q _ ot hW Hq.out).mono ?_;rintro e w3 ⟨rfl,Lw⟩;have W3:=W2.tr Lw;refine δZ ?_;intro g3 NW;clear Lw;replace Rr:=W3.r;go_wp2
  all_goals
   rw[di];go_wp2;go_ret;exact⟨dY (by have:=Hs.out;omega),ρE⟩
theorem iI (r:RN)(W s:Int)(w:ϖ)(h:r.ok)(hW:ai W)(hs:r.reach W=s):
  CB 218 #[bW r,wv W] w s:=by
 obtain⟨g,hg⟩:=Nq (if r.b=true then r.f else r.t);have og:g.ok:=by rw[<- hg];split;exact h.1;exact h.2
 refine xi r g W _ _ s w hg og h.2 hW rfl rfl (LN.reach_rng og W).1 (LN.reach_rng h.2 W).1 ?_;rw[<- hs,<- hg];unfold RN.reach;by_cases hb:r.b=true
 ·rw[qP hb,qP hb]
 ·rw[qI hb,qI hb];omega
structure LF where
 (has:Bool)
 (D E:RN)
 (p e t:Int)
abbrev eF (l:LF):ϗ:=φ #[β l.has,ι υ l.D.f.X,ι υ (hi (l.D.f.Y)),ι υ (lo (l.D.f.Y)),ι υ l.D.f.M,ι υ l.D.t.X,ι υ (hi (l.D.t.Y)),ι υ (lo (l.D.t.Y)),ι υ l.D.t.M,β l.D.b,ι υ l.E.f.X,ι υ (hi (l.E.f.Y)),ι υ (lo (l.E.f.Y)),ι υ l.E.f.M,ι υ l.E.t.X,ι υ (hi (l.E.t.Y)),ι υ (lo (l.E.t.Y)),ι υ l.E.t.M,β l.E.b,ι υ l.p,ι υ l.e,ι υ l.t]
theorem oL (p q:Int)(w:ϖ)(hp:an p)(hq:p*65536=q):
  CB 203 #[p] w (wv q):=by
 have Hq:=ag hq;clear hq;unfold CB;go_in;go_wp2_with fail;refine(gF p 65536 q _ hp ρa Hq.out).mono ?_;rintro e w1 ⟨rfl,Kr⟩;have R1:ah w1 w #[Ky,Ky] 232:=Zv Kr;refine η0 ?_;intro g1 KN;clear Kr;have Rr:=R1.r;go_wp2;exact Eb w (mV q) 232 rfl (λ_ cv=>(by simp[results,Tryz.results203,go_sem,cv]))
theorem wy (l:LF)(h:Int)(w:ϖ)(hh:¬0<h):
  CB 207 #[eF l,ι ε h] w (φ (dG l.has l.D l.E l.p Mc Mc)):=by
 have d1:decide (0<h)=false:=qF hh;unfold CB;go_in;go_upto_region 5 with (fail);refine δR ?_;rintro w1 ⟨g1,A1,R1⟩;have KN:=g1.size;have Rr:=θ2 A1.r R1.r;go_wp2_with (first|(refine eG 238 (.tmp 2) w (dG l.has l.D l.E l.p Mc Mc) 238 _ ρs ρs ρs ρB Tryz.underlying238 rfl ρi ?_)|(refine ey 238 (.tmp 4) (.tmp 26) (w+1) nt (dG l.has l.D l.E l.p Mc Mc) 238 ρs ρs ρs ρs ρB rfl ρi σf ?_;intro v Bv kB kO hs;have gv:Below w w v:=kB _ _ ρb ρE;clear kB kO hs));refine qO (v:=φ (dG l.has l.D l.E l.p Mc Mc)) ?_ ?_ ?_
 ·exact bI (w+1) (dG l.has l.D l.E l.p Mc Mc) 238 _ _ _ Tryz.results207 ρs Bv Tryz.underlying238 rfl ρi
 ·rfl
 ·exact⟨rfl,gv⟩
theorem tP (l:LF)(h p1 q p2 ev tv:Int)(w:ϖ)(hh:0<h)(hh':h<=Mb)(oD:l.D.ok)(oE:l.E.ok)(hp:an l.p)(h1:l.p*65536=p1)(i1:ai p1)(hq:IntKind.u64.wrap (l.p+h)=q)(q0:an q)(h2:q*65536=p2)(i2:ai p2)(h3:l.E.reach p1=ev)(h4:l.D.reach p2=tv):
  CB 207 #[eF l,ι ε h] w (φ (dG l.has l.D l.E l.p ev tv)):=by
 have d1:decide (0<h)=true:=qT hh;have hwh:IntKind.u64.wrap h=h:=qZ _ ⟨by omega,by omega⟩;have H1:=ag h1;have H2:=ag h2;have H3:=ag h3;have H4:=ag h4;clear h1 h2 h3 h4;unfold CB;go_in;go_upto_region 3 with (fail);refine δR ?_;rintro w1 ⟨g1,A1,R1⟩;have KN:=g1.size;have Rr:=θ2 A1.r R1.r;go_region_held3 (λv=>v.cell? ⟨w,10,none⟩=some (ι υ l.E.f.X)/\v.cell? ⟨w,11,none⟩=some (ι υ (hi (l.E.f.Y)))/\v.cell? ⟨w,12,none⟩=some (ι υ (lo (l.E.f.Y)))/\v.cell? ⟨w,13,none⟩=some (ι υ l.E.f.M)/\v.cell? ⟨w,14,none⟩=some (ι υ l.E.t.X)/\v.cell? ⟨w,15,none⟩=some (ι υ (hi (l.E.t.Y)))/\v.cell? ⟨w,16,none⟩=some (ι υ (lo (l.E.t.Y)))/\v.cell? ⟨w,17,none⟩=some (ι υ l.E.t.M)/\v.cell? ⟨w,18,none⟩=some (β l.E.b)/\v.cell? ⟨w,19,none⟩=some (ι υ l.p)/\w.heap.size<v/\Below w w v)
  (first
   | (refine⟨?_,?_,?_,?_,?_,?_,?_,?_,?_,?_,?_,?_⟩<;>first | (with_reducible assumption) | ((repeat' (first | (with_reducible (first | exact Below.refl _ _ | assumption | refine below_drewN ?_ _ | refine Below.drew ?_ | refine Below.alloc ?_ ?_ _ | refine Below.setCell ?_ ?_ _)) | go_size));done) | omega | (go_simp;done) | (simp;done)))
  (first
   | (go_at_call 203;(with_reducible refine(oL l.p p1 _ hp H1.out).mono ?_);refine bf ?_;intro w' f' KK KJ;have KA:=A1.tr f';have rA:=KA.r;have KT:=R1.tr f';have rR:=KT.r;have NU:w'.cell? ⟨w,10,none⟩=some (ι υ l.E.f.X):=((f'.cell ρb).trans ρe);have LZ:w'.cell? ⟨w,11,none⟩=some (ι υ (hi (l.E.f.Y))):=((f'.cell ρb).trans ρe);have MQ:w'.cell? ⟨w,12,none⟩=some (ι υ (lo (l.E.f.Y))):=((f'.cell ρb).trans ρe);have hq3:w'.cell? ⟨w,13,none⟩=some (ι υ l.E.f.M):=((f'.cell ρb).trans ρe);have hq4:w'.cell? ⟨w,14,none⟩=some (ι υ l.E.t.X):=((f'.cell ρb).trans ρe);have hq5:w'.cell? ⟨w,15,none⟩=some (ι υ (hi (l.E.t.Y))):=((f'.cell ρb).trans ρe);have hq6:w'.cell? ⟨w,16,none⟩=some (ι υ (lo (l.E.t.Y))):=((f'.cell ρb).trans ρe);have hq7:w'.cell? ⟨w,17,none⟩=some (ι υ l.E.t.M):=((f'.cell ρb).trans ρe);have hq8:w'.cell? ⟨w,18,none⟩=some (β l.E.b):=((f'.cell ρb).trans ρe);have hq9:w'.cell? ⟨w,19,none⟩=some (ι υ l.p):=((f'.cell ρb).trans ρe);clear f')
   | (go_at_call 218;(with_reducible refine(iI l.E p1 ev _ oE i1 H3.out).mono ?_);refine bf ?_;intro w' f' KK KJ;have KA:=A1.tr f';have rA:=KA.r;have KT:=R1.tr f';have rR:=KT.r;have NU:w'.cell? ⟨w,10,none⟩=some (ι υ l.E.f.X):=((f'.cell ρb).trans ρe);have LZ:w'.cell? ⟨w,11,none⟩=some (ι υ (hi (l.E.f.Y))):=((f'.cell ρb).trans ρe);have MQ:w'.cell? ⟨w,12,none⟩=some (ι υ (lo (l.E.f.Y))):=((f'.cell ρb).trans ρe);have hq3:w'.cell? ⟨w,13,none⟩=some (ι υ l.E.f.M):=((f'.cell ρb).trans ρe);have hq4:w'.cell? ⟨w,14,none⟩=some (ι υ l.E.t.X):=((f'.cell ρb).trans ρe);have hq5:w'.cell? ⟨w,15,none⟩=some (ι υ (hi (l.E.t.Y))):=((f'.cell ρb).trans ρe);have hq6:w'.cell? ⟨w,16,none⟩=some (ι υ (lo (l.E.t.Y))):=((f'.cell ρb).trans ρe);have hq7:w'.cell? ⟨w,17,none⟩=some (ι υ l.E.t.M):=((f'.cell ρb).trans ρe);have hq8:w'.cell? ⟨w,18,none⟩=some (β l.E.b):=((f'.cell ρb).trans ρe);have hq9:w'.cell? ⟨w,19,none⟩=some (ι υ l.p):=((f'.cell ρb).trans ρe);clear f'))
 all_goals
  go_upto_region 4 with (fail);refine aI (λv=>Below w w v/\ah v w (dG l.has l.D l.E l.p ev Mc) 238/\ah v (w+1) nt 238) ⟨ρE,ρB,ρB⟩ ?_;rintro w2 ⟨g2,A2,R2⟩;have Li:=g2.size;replace Rr:=θ2 A2.r R2.r;go_region_held3 (λv=>v.cell? ⟨w,1,none⟩=some (ι υ l.D.f.X)/\v.cell? ⟨w,2,none⟩=some (ι υ (hi (l.D.f.Y)))/\v.cell? ⟨w,3,none⟩=some (ι υ (lo (l.D.f.Y)))/\v.cell? ⟨w,4,none⟩=some (ι υ l.D.f.M)/\v.cell? ⟨w,5,none⟩=some (ι υ l.D.t.X)/\v.cell? ⟨w,6,none⟩=some (ι υ (hi (l.D.t.Y)))/\v.cell? ⟨w,7,none⟩=some (ι υ (lo (l.D.t.Y)))/\v.cell? ⟨w,8,none⟩=some (ι υ l.D.t.M)/\v.cell? ⟨w,9,none⟩=some (β l.D.b)/\v.cell? ⟨w,19,none⟩=some (ι υ l.p)/\w.heap.size<v/\Below w w v)
   (first
    | (refine⟨?_,?_,?_,?_,?_,?_,?_,?_,?_,?_,?_,?_⟩<;>first | (with_reducible assumption) | ((repeat' (first | (with_reducible (first | exact Below.refl _ _ | assumption | refine below_drewN ?_ _ | refine Below.drew ?_ | refine Below.alloc ?_ ?_ _ | refine Below.setCell ?_ ?_ _)) | go_size));done) | omega | (go_simp;done) | (simp;done)))
   (first
    | (go_at_call 203;(with_reducible refine(oL q p2 _ q0 H2.out).mono ?_);refine bf ?_;intro w' f' KK KJ;have KA:=A2.tr f';have rA:=KA.r;have KT:=R2.tr f';have rR:=KT.r;have NU:w'.cell? ⟨w,1,none⟩=some (ι υ l.D.f.X):=((f'.cell ρb).trans ρe);have LZ:w'.cell? ⟨w,2,none⟩=some (ι υ (hi (l.D.f.Y))):=((f'.cell ρb).trans ρe);have MQ:w'.cell? ⟨w,3,none⟩=some (ι υ (lo (l.D.f.Y))):=((f'.cell ρb).trans ρe);have hq3:w'.cell? ⟨w,4,none⟩=some (ι υ l.D.f.M):=((f'.cell ρb).trans ρe);have hq4:w'.cell? ⟨w,5,none⟩=some (ι υ l.D.t.X):=((f'.cell ρb).trans ρe);have hq5:w'.cell? ⟨w,6,none⟩=some (ι υ (hi (l.D.t.Y))):=((f'.cell ρb).trans ρe);have hq6:w'.cell? ⟨w,7,none⟩=some (ι υ (lo (l.D.t.Y))):=((f'.cell ρb).trans ρe);have hq7:w'.cell? ⟨w,8,none⟩=some (ι υ l.D.t.M):=((f'.cell ρb).trans ρe);have hq8:w'.cell? ⟨w,9,none⟩=some (β l.D.b):=((f'.cell ρb).trans ρe);have hq9:w'.cell? ⟨w,19,none⟩=some (ι υ l.p):=((f'.cell ρb).trans ρe);clear f')
    | (go_at_call 218;(with_reducible refine(iI l.D p2 tv _ oD i2 H4.out).mono ?_);refine bf ?_;intro w' f' KK KJ;have KA:=A2.tr f';have rA:=KA.r;have KT:=R2.tr f';have rR:=KT.r;have NU:w'.cell? ⟨w,1,none⟩=some (ι υ l.D.f.X):=((f'.cell ρb).trans ρe);have LZ:w'.cell? ⟨w,2,none⟩=some (ι υ (hi (l.D.f.Y))):=((f'.cell ρb).trans ρe);have MQ:w'.cell? ⟨w,3,none⟩=some (ι υ (lo (l.D.f.Y))):=((f'.cell ρb).trans ρe);have hq3:w'.cell? ⟨w,4,none⟩=some (ι υ l.D.f.M):=((f'.cell ρb).trans ρe);have hq4:w'.cell? ⟨w,5,none⟩=some (ι υ l.D.t.X):=((f'.cell ρb).trans ρe);have hq5:w'.cell? ⟨w,6,none⟩=some (ι υ (hi (l.D.t.Y))):=((f'.cell ρb).trans ρe);have hq6:w'.cell? ⟨w,7,none⟩=some (ι υ (lo (l.D.t.Y))):=((f'.cell ρb).trans ρe);have hq7:w'.cell? ⟨w,8,none⟩=some (ι υ l.D.t.M):=((f'.cell ρb).trans ρe);have hq8:w'.cell? ⟨w,9,none⟩=some (β l.D.b):=((f'.cell ρb).trans ρe);have hq9:w'.cell? ⟨w,19,none⟩=some (ι υ l.p):=((f'.cell ρb).trans ρe);clear f'))
  all_goals
   go_upto_region 5 with (fail);refine aI (λv=>Below w w v/\ah v w (dG l.has l.D l.E l.p ev tv) 238/\ah v (w+1) nt 238) ⟨ρE,ρB,ρB⟩ ?_;rintro w3 ⟨g3,A3,R3⟩;have NW:=g3.size;replace Rr:=θ2 A3.r R3.r;go_wp2_with (first|(refine eG 238 (.tmp 2) w (dG l.has l.D l.E l.p ev tv) 238 _ ρs ρs ρs ρB Tryz.underlying238 rfl ρi ?_)|(refine ey 238 (.tmp 4) (.tmp 26) (w+1) nt (dG l.has l.D l.E l.p ev tv) 238 ρs ρs ρs ρs ρB rfl ρi σf ?_;intro v Bv kB kO hs;have gv:Below w w v:=kB _ _ ρb ρE;clear kB kO hs));refine qO (v:=φ (dG l.has l.D l.E l.p ev tv)) ?_ ?_ ?_
   ·exact bI (w+1) (dG l.has l.D l.E l.p ev tv) 238 _ _ _ Tryz.results207 ρs Bv Tryz.underlying238 rfl ρi
   ·rfl
   ·exact⟨rfl,gv⟩
theorem te (x:Int):0<=IntKind.u64.wrap x/\IntKind.u64.wrap x<=Ma:=by rw[IntKind.wrap_u64];omega
def LF.ok (l:LF):Prop:=l.D.ok/\l.E.ok/\(0<=l.p/\l.p<=Ma)
def LF.headed (l:LF)(h:Int):LF:=if 0<h then ⟨l.has,l.D,l.E,l.p,l.E.reach (l.p*65536),l.D.reach (IntKind.u64.wrap (l.p+h)*65536)⟩ else ⟨l.has,l.D,l.E,l.p,9223372036854775808,9223372036854775808⟩
def LF.took (l:LF)(s h:Int):LF:=LF.headed ⟨l.has,l.D,l.E,IntKind.u64.wrap (l.p+max s 0),l.e,l.t⟩ h
def LF.woke (l:LF)(m d n x:Int):LF:=⟨true,if l.has then RN.meet l.D (RN.start m d n x (l.p*65536)) else RN.start m d n x (l.p*65536),if l.has then RN.meet l.E (RN.ready m d n x (l.p*65536)) else RN.ready m d n x (l.p*65536),l.p,l.e,l.t⟩
theorem ja {p:Int} (h:an p):ai (p*65536):=by unfold ai;omega
theorem fl (l r:LF)(h:Int)(w:ϖ)(hl:l.ok)(hh:-Mc<=h/\h<=Mb)(hr:l.headed h=r):
  CB 207 #[eF l,ι ε h] w (eF r):=by
 subst hr;unfold LF.headed;by_cases h0:0<h
 ·rw[qP h0];exact tP l h _ _ _ _ _ w h0 hh.2 hl.1 hl.2.1 hl.2.2 rfl (ja hl.2.2) rfl (te _) rfl (ja (te _)) rfl rfl
 ·rw[qI h0];exact wy l h w h0
theorem t8 (l r:LF)(h:Int)(w:ϖ)(hl:l.ok)(hh:-Mc<=h/\h<=Mb)(hr:l.headed h=r):
  CB 221 #[eF l,ι ε h] w (eF r):=by
 have Hr:=ag hr;clear hr;unfold CB;go_in;go_upto_region 1 with (fail);refine δ3 ?_;rintro w1 ⟨g1,A1,R1⟩;have KN:=g1.size;have Rr:=θ2 A1.r R1.r;go_wp2_with (refine eG 238 (.tmp 2) w (dG l.has l.D l.E l.p l.e l.t) 238 _ ρs ρs ρs ρB Tryz.underlying238 rfl ρi ?_);refine(fl l r h _ hl hh Hr.out).mono ?_;rintro e w2 ⟨rfl,Kx⟩;have R2:=R1.tr Kx;refine η9 ?_;intro g2 Li;clear Kx;replace Rr:=R2.r;go_wp2_with (first|(refine ey 238 (.tmp 4) (.tmp 7) (w+1) nt (dG r.has r.D r.E r.p r.e r.t) 238 ρs ρs ρs ρs ρB rfl ρi σf ?_;intro v Bv kB kO hs;have gv:Below w w v:=kB _ _ ρb ρE;clear kB kO hs));refine qO (v:=φ (dG r.has r.D r.E r.p r.e r.t)) ?_ ?_ ?_
 ·exact bI (w+1) (dG r.has r.D r.E r.p r.e r.t) 238 _ _ _ Tryz.results221 ρs Bv Tryz.underlying238 rfl ρi
 ·rfl
 ·exact⟨rfl,gv⟩
theorem Aw (l r:LF)(s h q:Int)(w:ϖ)(hl:l.ok)(hss:-Mc<=s/\s<=Mb)(hs:0<s)(hh:-Mc<=h/\h<=Mb)(hq:IntKind.u64.wrap (l.p+s)=q)(q0:an q)(hr:LF.headed ⟨l.has,l.D,l.E,q,l.e,l.t⟩ h=r):
  CB 219 #[eF l,ι ε s,ι ε h] w (eF r):=by
 have Hr:=ag hr;clear hr;have hp:0<=l.p/\l.p<=Ma:=hl.2.2;have ok:LF.ok ⟨l.has,l.D,l.E,q,l.e,l.t⟩:=⟨hl.1,hl.2.1,q0⟩;obtain⟨mx,YW⟩:=Nq (max s 0);have d1:¬s<0:=ρa;have hw:IntKind.u64.wrap s=s:=qZ _ ⟨by omega,by omega⟩;unfold CB;go_in;go_upto_region 2 with (fail)
 all_goals
  refine aI (λv=>Below w w v/\ah v w (dG l.has l.D l.E q l.e l.t) 238/\ah v (w+1) nt 238) ⟨ρE,ρB,ρB⟩ ?_;rintro w1 ⟨g1,A1,R1⟩;have KN:=g1.size;have Rr:=θ2 A1.r R1.r;go_wp2_with (refine eG 238 (.tmp 3) w (dG l.has l.D l.E q l.e l.t) 238 _ ρs ρs ρs ρB Tryz.underlying238 rfl ρi ?_);refine(fl ⟨l.has,l.D,l.E,q,l.e,l.t⟩ r h _ ok hh Hr.out).mono ?_;rintro e w2 ⟨rfl,Kx⟩;have R2:=R1.tr Kx;refine η9 ?_;intro g2 Li;clear Kx;replace Rr:=R2.r;go_wp2_with (first|(refine ey 238 (.tmp 6) (.tmp 16) (w+1) nt (dG r.has r.D r.E r.p r.e r.t) 238 ρs ρs ρs ρs ρB rfl ρi σf ?_;intro v Bv kB kO hs;have gv:Below w w v:=kB _ _ ρb ρE;clear kB kO hs));refine qO (v:=φ (dG r.has r.D r.E r.p r.e r.t)) ?_ ?_ ?_
  ·exact ηK
  ·rfl
  ·exact⟨rfl,gv⟩
theorem Av (l r:LF)(s h q:Int)(w:ϖ)(hl:l.ok)(hss:-Mc<=s/\s<=Mb)(hs:s<=0)(hh:-Mc<=h/\h<=Mb)(hq:IntKind.u64.wrap (l.p+0)=q)(q0:an q)(hr:LF.headed ⟨l.has,l.D,l.E,q,l.e,l.t⟩ h=r):
  CB 219 #[eF l,ι ε s,ι ε h] w (eF r):=by
 rw[Int.add_zero,qZ _ ⟨hl.2.2.1,hl.2.2.2⟩] at hq;subst hq;have Hr:=ag hr;clear hr;have hp:0<=l.p/\l.p<=Ma:=hl.2.2;have ok:LF.ok ⟨l.has,l.D,l.E,l.p,l.e,l.t⟩:=⟨hl.1,hl.2.1,hp⟩;obtain⟨mx,YW⟩:=Nq (max s 0);have hmx2:(if s<0 then (0:Int) else s)=0:=by split<;>omega
 unfold CB;go_in;go_upto_region 2 with (fail)
 all_goals
  refine δ3 ?_;rintro w1 ⟨g1,A1,R1⟩;have KN:=g1.size;have Rr:=θ2 A1.r R1.r;go_wp2_with (refine eG 238 (.tmp 3) w (dG l.has l.D l.E l.p l.e l.t) 238 _ ρs ρs ρs ρB Tryz.underlying238 rfl ρi ?_);refine(fl ⟨l.has,l.D,l.E,l.p,l.e,l.t⟩ r h _ ok hh Hr.out).mono ?_;rintro e w2 ⟨rfl,Kx⟩;have R2:=R1.tr Kx;refine η9 ?_;intro g2 Li;clear Kx;replace Rr:=R2.r;go_wp2_with (first|(refine ey 238 (.tmp 6) (.tmp 16) (w+1) nt (dG r.has r.D r.E r.p r.e r.t) 238 ρs ρs ρs ρs ρB rfl ρi σf ?_;intro v Bv kB kO hs;have gv:Below w w v:=kB _ _ ρb ρE;clear kB kO hs));refine qO (v:=φ (dG r.has r.D r.E r.p r.e r.t)) ?_ ?_ ?_
  ·exact ηK
  ·rfl
  ·exact⟨rfl,gv⟩
theorem Au (l r:LF)(s h:Int)(w:ϖ)(hl:l.ok)(hs:-Mc<=s/\s<=Mb)(hh:-Mc<=h/\h<=Mb)(hr:l.took s h=r):
  CB 219 #[eF l,ι ε s,ι ε h] w (eF r):=by
 unfold LF.took at hr;by_cases h0:0<s
 ·rw[show max s 0=s by omega] at hr;exact Aw l r s h _ w hl hs h0 hh rfl (te _) hr
 ·rw[show max s 0=0 by omega] at hr;exact Av l r s h _ w hl hs ρa hh rfl (te _) hr
def RN.time (r:RN)(p:Int):Int:=if r.b then max (max (r.reach (p*65536)) r.t.X) r.f.X else max (r.reach (p*65536)) r.t.X
theorem RN.time_rng {r:RN} (h:r.ok)(p:Int):0<=r.time p/\r.time p<=Ma:=by have h1:=RN.reach_rng h (p*65536);have h2:=h.1.1;have h3:=h.2.1;unfold RN.time;split<;>omega
theorem LN.reach_mono {l:LN} (h:l.small) {W W':Int} (h0:0<=W)(hW:W<=W'):l.reach W<=l.reach W':=by
 have r1:=LN.reach_rng (LN.small_ok h) W;have r2:=LN.reach_rng (LN.small_ok h) W';by_cases hn:l.reach W'=Mc
 ·omega
 ·have i1:=LN.reach_iff (x:=l.reach W') h (show 0<=W' by omega) r2.1 ρa;have i2:=LN.reach_iff (x:=l.reach W') h h0 r2.1 ρa;have:=i1.1 (qJ _);exact i2.2 ρa
theorem RN.reach_mono {r:RN} (h:r.small) {W W':Int} (h0:0<=W)(hW:W<=W'):r.reach W<=r.reach W':=by have h1:=LN.reach_mono h.1 h0 hW;have h2:=LN.reach_mono h.2 h0 hW;unfold RN.reach;split<;>omega
def JC (m d n:Int):Prop:=kd m d n=2\/kd m d n=3
theorem JC.not4 {m d n:Int} (h:JC m d n):kd m d n≠4:=by rcases h with h|h<;>omega
theorem Cu {m d n x y:Int} (h:kd m d n=2):RN.start m d n x y=⟨LN.zero,⟨x,y,n⟩,false⟩:=by unfold RN.start;rw[qI ρa];unfold RN.ready;rw[qP (.inl h)]
theorem lJ {m d n x y:Int} (h:kd m d n=3):RN.start m d n x y=⟨⟨x,y,m⟩,⟨x,bh (y+(m - n)*d),n⟩,true⟩:=by unfold RN.start;rw[qI ρa];unfold RN.ready;rw[qI ρa,qP h]
theorem Gd (a b m:Int)(B:Nat)(t:TypeId)(w:ϖ)(hB:ah w B #[a,b] t)(ha:an a)(hb:an b)(hm:max a b=m):Calls Ψ 256 #[ζ B 2 2] w λe w'=>e=ϰ m/\w=w':=by
 have cB:=hB.cell;have zB:=hB.size;have Hm:=ag hm;clear hm;go_in;go_wp2;refine wp_loop_rounds 3 ?_;rw[di];go_wp2
 all_goals
  rw[di];go_wp2
  all_goals
   rw[di];go_wp2
   all_goals
    go_ret;exact⟨dY (by have:=Hm.out;omega),rfl⟩
theorem Ge (a b c m:Int)(B:Nat)(t:TypeId)(w:ϖ)(hB:ah w B (aH a b c) t)(ha:an a)(hb:an b)(hc:an c)(hm:max (max a b) c=m):Calls Ψ 256 #[ζ B 3 3] w λe w'=>e=ϰ m/\w=w':=by
 have cB:=hB.cell;have zB:=hB.size;have Hm:=ag hm;clear hm;go_in;go_wp2;refine wp_loop_rounds 4 ?_;rw[di];go_wp2
 all_goals
  rw[di];go_wp2
  all_goals
   rw[di];go_wp2
   all_goals
    rw[di];go_wp2
   all_goals
    go_ret;exact⟨dY (by have:=Hm.out;omega),rfl⟩
theorem uF (r:RN)(p q v T:Int)(w:ϖ)(hb:r.b=false)(hr:r.ok)(hp:an p)(hq:p*65536=q)(hv:r.reach q=v)(hT:max v r.t.X=T):
  CB 212 #[bW r,p] w T:=by
 have LZ:ai q:=ρ9;have hv1:=RN.reach_rng hr q;rw[hv] at hv1;have Hq:=ag hq;have Hv:=ag hv;have HT:=ag hT;clear hq hv hT;have htX:=hr.2.1;have hfX:=hr.1.1;have cr:∀u,CB 218 #[φ #[r.f.X,(hi (r.f.Y)),(lo (r.f.Y)),r.f.M,r.t.X,(hi (r.t.Y)),(lo (r.t.Y)),r.t.M,dO],wv q] u v:=λu=>by have:=iI r q v u hr LZ Hv.out;rw[bW,hb] at this;exact this
 have Hcr:=ag cr;clear cr;rw[bW,hb];clear hb;unfold CB;go_in;go_wp2_with fail;refine aI (λv=>Below w w v/\ah v w #[r.f.X,(hi (r.f.Y)),(lo (r.f.Y)),r.f.M,r.t.X,(hi (r.t.Y)),(lo (r.t.Y)),r.t.M,dO] 236) ⟨ρE,ρB⟩ ?_;rintro v1 ⟨Qp,Pu⟩;have Ux:=af Pu;refine Wq ?_
 repeat (go_big_quiet_step ((first
   | (go_at_call 211;(with_reducible exact cD (gF p 65536 q _ hp ρa Hq.out)))
   | (go_at_call 218;(with_reducible exact cD (Hcr.out _))))))
 refine wpQuiet_nil ?_;intro _ Pk;obtain⟨pq,MY⟩:=Pk;subst MY;have Kr:=qW v1 pq.d pq.os;generalize Sort.grow (redrawn v1 pq.d) pq.os=w1 at*;have A1:ah w1 w #[r.f.X,(hi (r.f.Y)),(lo (r.f.Y)),r.f.M,r.t.X,(hi (r.t.Y)),(lo (r.t.Y)),r.t.M,dO] 236:=ah.below Pu Kr Pu.size;have g1:Below w w w1:=Qp.trans (Kr.mono Qp.size);have KN:w.heap.size<=w1:=g1.size;clear Kr Qp Pu Ux;have Rr:=A1.r;go_wp2_with fail;refine(Gd v r.t.X T _ _ _ ρB ρa htX HT.out).mono ?_;rintro e w9 ⟨rfl,rfl⟩;go_wp2;go_ret;exact⟨rfl,ρE⟩
theorem xB (r:RN)(p q v T:Int)(w:ϖ)(hb:r.b=true)(hr:r.ok)(hp:an p)(hq:p*65536=q)(hv:r.reach q=v)(hT:max (max v r.t.X) r.f.X=T):
  CB 212 #[bW r,p] w T:=by
 have LZ:ai q:=ρ9;have hv1:=RN.reach_rng hr q;rw[hv] at hv1;have Hq:=ag hq;have Hv:=ag hv;have HT:=ag hT;clear hq hv hT;have htX:=hr.2.1;have hfX:=hr.1.1;have cr:∀u,CB 218 #[φ #[r.f.X,(hi (r.f.Y)),(lo (r.f.Y)),r.f.M,r.t.X,(hi (r.t.Y)),(lo (r.t.Y)),r.t.M,fF],wv q] u v:=λu=>by have:=iI r q v u hr LZ Hv.out;rw[bW,hb] at this;exact this
 have Hcr:=ag cr;clear cr;rw[bW,hb];clear hb;unfold CB;go_in;go_wp2_with fail;refine aI (λv=>Below w w v/\ah v w #[r.f.X,(hi (r.f.Y)),(lo (r.f.Y)),r.f.M,r.t.X,(hi (r.t.Y)),(lo (r.t.Y)),r.t.M,fF] 236) ⟨ρE,ρB⟩ ?_;rintro v1 ⟨Qp,Pu⟩;have Ux:=af Pu;refine Wq ?_
 repeat (go_big_quiet_step ((first
   | (go_at_call 211;(with_reducible exact cD (gF p 65536 q _ hp ρa Hq.out)))
   | (go_at_call 218;(with_reducible exact cD (Hcr.out _))))))
 refine wpQuiet_nil ?_;intro _ Pk;obtain⟨pq,MY⟩:=Pk;subst MY;have Kr:=qW v1 pq.d pq.os;generalize Sort.grow (redrawn v1 pq.d) pq.os=w1 at*;have A1:ah w1 w #[r.f.X,(hi (r.f.Y)),(lo (r.f.Y)),r.f.M,r.t.X,(hi (r.t.Y)),(lo (r.t.Y)),r.t.M,fF] 236:=ah.below Pu Kr Pu.size;have g1:Below w w w1:=Qp.trans (Kr.mono Qp.size);have KN:w.heap.size<=w1:=g1.size;clear Kr Qp Pu Ux;have Rr:=A1.r;go_wp2_with fail;refine(Ge v r.t.X r.f.X T _ _ _ ρB ρa htX hfX HT.out).mono ?_;rintro e w9 ⟨rfl,rfl⟩;go_wp2;go_ret;exact⟨rfl,ρE⟩
theorem jl (r:RN)(p T:Int)(w:ϖ)(hr:r.ok)(hp:an p)(hT:r.time p=T):
  CB 212 #[bW r,p] w T:=by
 unfold RN.time at hT;rcases hb:r.b with _|_
 ·rw[hb] at hT;simp only[Bool.false_eq_true,if_false] at hT;exact uF r p _ _ T w hb hr hp rfl rfl hT
 ·rw[hb] at hT;simp only[if_true] at hT;exact xB r p _ _ T w hb hr hp rfl rfl hT
theorem LN.low_le {a b:LN} (ha:a.small)(hb:b.small)(hM:a.M=b.M)(hX:a.X<=b.X) {x:Int} (hx:x<=Ma):(LN.low a b).at x<=b.at x:=by
 have hbX:=hb.2;rcases Int.le_total b.X x with h|h
 ·rw[LN.low_at ha hb hM ρa h hx];exact Int.min_le_right _ _
 ·rw[LN.at_lo h];have h1:=LN.at_mono (LN.low_small ha hb) h hbX.2;rw[LN.low_at ha hb hM hX (qJ _) hbX.2,LN.at_lo (qJ b.X)] at h1;have:=Int.min_le_right (a.at b.X) b.Y;omega
theorem vo {r s:RN} (hr:r.small)(hs:s.small)(h:r.alike s)(hf:r.b=true->r.f.X<=s.f.X)(ht:r.t.X<=s.t.X) {x:Int} (hx:x<=Ma):(RN.meet r s).at x<=s.at x:=by
 have e1:=LN.low_le hr.2 hs.2 h.2.2 ht hx;unfold RN.meet RN.at;rcases hb:r.b with _|_
 ·have Kx:s.b=false:=by rw[<- h.1];exact hb
  simp only[Kx,Bool.false_eq_true,if_false];exact e1
 ·have Kx:s.b=true:=by rw[<- h.1];exact hb
  have e2:=LN.low_le hr.1 hs.1 (h.2.1 hb) (hf hb) hx;simp only[Kx,if_true];split<;>split<;>omega
def mX (m d n now:Int):Int:=if kd m d n=4 then now+d else now
structure LK (m d n now:Int) (D E:RN):Prop where
 pair:lP m d n D E
 al:D.alike (RN.start m d n 0 0)
 bg:D.begun (mX m d n now)
 eb:kd m d n=4->E.t.X<=now
 gap:D.b=true->∀x,now<=x->x<=9223372036854775807->D.t.at x<=D.f.at x+(m - n)*d
theorem vm {m d n a b:Int} (h:a<=b):mX m d n a<=mX m d n b:=by unfold mX;split<;>omega
theorem LK.later {m d n now now':Int} {D E:RN} (h:LK m d n now D E)(hn:now<=now'):LK m d n now' D E:=
 ⟨h.pair,h.al,⟨λhb=>by have:=h.bg.1 hb;have:=vm (m:=m) (d:=d) (n:=n) hn;omega,by have:=h.bg.2;have:=vm (m:=m) (d:=d) (n:=n) hn;omega⟩,λhk=>by have:=h.eb hk;omega,λhb x h1 h2=>h.gap hb x ρa h2⟩
theorem iM (m d n x y:Int):(RN.start m d n x y).main.X=mX m d n x:=gZ m d n x y
theorem sK {m d n x y:Int} (hb:(RN.start m d n x y).b=true):(RN.start m d n x y).f.X=mX m d n x:=by have:=iM m d n x y;unfold RN.main at this;rw[qP hb] at this;exact this
theorem mL {m d n x y:Int} (hb:(RN.start m d n x y).b=true):kd m d n=3:=by
 unfold RN.start RN.ready at hb;split at hb
 ·simp at hb
 ·split at hb
  ·simp at hb
  ·split at hb
   ·assumption
   ·simp at hb
theorem sL (m d n x y:Int):(RN.start m d n x y).t.X=mX m d n x:=by
 unfold RN.start RN.ready mX;split
 ·rfl
 ·split
  ·rfl
  ·split<;>rfl
theorem sJ {m d n x:Int} (hc:dk m d n)(v:WN)(hv:v.ok)(hx:x<=Mb):(v.start m d n).at x=v.p*65536+sv m d n (max (x - v.at_) 0):=by
 rw[iL hc v hv hx];unfold WN.asked WN.val;split
 ·rw[show max (x - v.at_) 0=x - v.at_ by omega]
 ·rw[show max (x - v.at_) 0=0 by omega];have:=hc.2.2.1.1;unfold sv;rw[qP this];simp
theorem oJ {m d n:Int} (hc:dk m d n)(v:WN)(hv:v.ok)(hb:(v.start m d n).b=true) {x:Int} (h1:v.at_<=x)(h2:x<=Mb):(v.start m d n).t.at x<=(v.start m d n).f.at x+(m - n)*d:=by have hk:=mL hb;have hs:=bj hc hv;have hk3:=yq hk;have ha:=iy hc hv (by omega:n<=m);unfold WN.start at*;rw[lJ hk] at hs ⊢;rw[LN.at_from hs.1 h1 ρa,LN.at_from hs.2 h1 ρa];simp only[];rw[ha];have:=Int.mul_le_mul_of_nonneg_right (show n<=m by omega) (show 0<=x - v.at_ by omega);omega
theorem LK.one {m d n:Int} (hc:dk m d n)(v:WN)(hv:v.ok):LK m d n v.at_ (v.start m d n) (v.ready m d n):=by refine⟨lP.one hc v hv,bJ ..,gY (Int.le_of_eq (iM ..)),λhk=>?_,λhb x h1 h2=>oJ hc v hv hb h1 h2⟩;unfold WN.ready;rw[jJ hk];exact qJ _
theorem LK.meet {m d n:Int} {D E:RN} (hc:dk m d n)(v:WN)(hv:v.ok)(h:LK m d n v.at_ D E):LK m d n v.at_ (RN.meet D (v.start m d n)) (RN.meet E (v.ready m d n)):=by
 have VD:D.alike (v.start m d n):=iz h.al (jd (bJ ..));have sb:(v.start m d n).begun (mX m d n v.at_):=gY (by rw[iM];exact qJ _);have hs:(v.start m d n).small:=bj hc hv;refine⟨h.pair.meet hc v hv,mu h.al (bJ ..),tX VD h.bg sb,λhk=>?_,λhb x h1 h2=>?_⟩
 ·show (LN.low E.t (v.ready m d n).t).X<=v.at_;unfold LN.low WN.ready;rw[jJ hk];split
  ·exact qJ _
  ·exact h.eb hk
 ·have f':D.b=true:=hb;have Kx:(v.start m d n).b=true:=by rw[<- VD.1];exact f'
  have hk:=mL Kx;have hX:mX m d n v.at_=v.at_:=by unfold mX;rw[qI ρa]
  have g1:=h.gap f' x h1 h2;have g2:=oJ hc v hv Kx h1 h2;show (LN.low D.t (v.start m d n).t).at x<=(if D.b then LN.low D.f (v.start m d n).f else LN.zero).at x+(m - n)*d;rw[qP f',LN.low_at h.pair.1.2 hs.2 VD.2.2 (by have:=h.bg.2;omega) (by have:=sb.2;omega) ρa,LN.low_at h.pair.1.1 hs.1 (VD.2.1 f') (by have:=h.bg.1 f';omega) (by have:=sb.1 Kx;omega) ρa];omega
theorem LK.new {m d n:Int} {D E:RN} (hc:dk m d n)(v:WN)(hv:v.ok)(h:LK m d n v.at_ D E) {x:Int} (hx:x<=Mb):(RN.meet D (v.start m d n)).at x<=v.p*65536+sv m d n (max (x - v.at_) 0):=by
 have VD:D.alike (v.start m d n):=iz h.al (jd (bJ ..));rw[<- sJ hc v hv hx];refine vo h.pair.1 (bj hc hv) VD (λhb=>?_) ?_ ρa
 ·have:=h.bg.1 hb;exact Int.le_trans this (Int.le_of_eq (show (v.start m d n).f.X=mX m d n v.at_ from sK (VD.1 ▸ hb)).symm)
 ·have:=h.bg.2;exact Int.le_trans this (Int.le_of_eq (sL m d n v.at_ (v.p*65536)).symm)
theorem LK.old {m d n:Int} {D E:RN} (hc:dk m d n)(v:WN)(hv:v.ok)(h:LK m d n v.at_ D E) {x:Int} (hx:x<=Mb):(RN.meet D (v.start m d n)).at x<=max (D.at x) (v.p*65536):=by
 have VD:D.alike (v.start m d n):=iz h.al (jd (bJ ..));have hs:(v.start m d n).small:=bj hc hv;rcases Int.le_total (mX m d n v.at_) x with g|g
 ·have b1:D.begun x:=⟨λhb=>by have:=h.bg.1 hb;omega,by have:=h.bg.2;omega⟩;have b2:(v.start m d n).begun x:=gY (by rw[iM];exact g);rw[RN.meet_at h.pair.1 hs VD b1 b2 ρa];omega
 ·have h1:=vo h.pair.1 hs VD (λhb=>by
   have:=h.bg.1 hb;rw[show (v.start m d n).f.X=mX m d n v.at_ from sK (VD.1 ▸ hb)];exact this) (by have:=h.bg.2;rw[show (v.start m d n).t.X=mX m d n v.at_ from sL ..];exact this) (x:=x) ρa
  have h2:=RN.at_le_main (v.start m d n) x;have e:(v.start m d n).main.at x=v.p*65536:=by unfold WN.start;rw[LN.at_lo (by rw[iM];exact g),jN]
  omega
theorem LK.rise {m d n now:Int} {D E:RN} (hc:dk m d n)(h:LK m d n now D E)(h0:0<=now) {s x:Int} (h1:now<=s)(h2:s<=x)(h3:x<=Mb):D.at x<=E.at s+sv m d n (x - s):=by
 obtain⟨hk,hm,hd,hn⟩:=id hc;obtain⟨sD,sE,p3,p4⟩:=id h.pair;by_cases k4:kd m d n=4
 ·obtain⟨b1,b2,e1,e2⟩:=p4 k4;have hE:=h.eb k4;have e0:=Gc k4;rw[RN.at_t b1,RN.at_t b2,LN.at_from sE.2 ρa ρa,e2];have sD2:=sD.2;rw[e1] at sD2 ⊢;rcases Int.le_total x (E.t.X+d) with g|g
  ·rw[LN.at_lo (by simp only[];exact g)];simp only[];have q1:=Int.mul_nonneg hn.1 (show 0<=s - E.t.X by omega);have q2:=(mP (m:=m) (d:=d) (n:=n) (t:=x - s) ρa hd.1 ρa ρa).1;omega
  ·rw[LN.at_from sD2 (by simp only[];exact g) ρa];simp only[];rw[e2];unfold sv;rw[e0.2.1];split
   ·have:=qU (show x - (E.t.X+d)<=s - E.t.X by omega) hn.1;omega
   ·rw[show x - (E.t.X+d)=(s - E.t.X)+(x - s - d) by omega,Int.mul_add];omega
 ·have eDE:=p3 k4;subst eDE;have hX:mX m d n now=now:=by unfold mX;rw[qI k4]
  have ht:=h.bg.2;rw[hX] at ht;have a1:=LN.at_from sD.2 (x:=s) ρa ρa;have a2:=LN.at_from sD.2 (x:=x) ρa ρa;have tM:D.t.M=(RN.start m d n 0 0).t.M:=h.al.2.2;rcases hb:D.b with _|_
  ·rw[RN.at_t hb,RN.at_t hb,a1,a2];have Kx:(RN.start m d n 0 0).b=false:=by rw[<- h.al.1];exact hb
   have e:D.t.M*(x - D.t.X)=D.t.M*(s - D.t.X)+D.t.M*(x - s):=by rw[<- Int.mul_add];congr 1;omega
   have hM:D.t.M*(x - s)<=sv m d n (x - s):=by
    rw[tM];by_cases k2:kd m d n=2
    ·have:=Gb k2;rw[Cu k2];simp only[];unfold sv;rw[this.1,this.2];split
     ·exact qJ _
     ·rw[show x - s - 0=x - s by omega];omega
    ·by_cases k3:kd m d n=3
     ·rw[lJ k3] at Kx;simp at Kx
     ·have:(RN.start m d n 0 0).t.M=0:=by
       unfold RN.start RN.ready;rw[qI k4,qI ρa,qI k3]
      rw[this];have:=(mP (m:=m) (d:=d) (n:=n) (t:=x - s) ρa hd.1 ρa ρa).1;omega
   omega
  ·have Kx:(RN.start m d n 0 0).b=true:=by rw[<- h.al.1];exact hb
   have k3:=mL Kx;have kk:=yq k3;have hf:=h.bg.1 hb;rw[hX] at hf;have f1:=LN.at_from sD.1 (x:=s) ρa ρa;have f2:=LN.at_from sD.1 (x:=x) ρa ρa;have fM:D.f.M=m:=by rw[h.al.2.1 hb,lJ k3]
   have tM':D.t.M=n:=by rw[tM,lJ k3]
   have g:=h.gap hb s h1 ρa;have ef:D.f.at x=D.f.at s+m*(x - s):=by rw[f1,f2,fM,Int.add_assoc,<- Int.mul_add];congr 2;omega
   have et:D.t.at x=D.t.at s+n*(x - s):=by rw[a1,a2,tM',Int.add_assoc,<- Int.mul_add];congr 2;omega
   have q:n*(x - s)<=m*(x - s):=Int.mul_le_mul_of_nonneg_right ρa ρa;have hsv:(x - s<=d->sv m d n (x - s)=m*(x - s))/\(d<=x - s->sv m d n (x - s)=(m - n)*d+n*(x - s)):=by
    constructor
    ·intro h;unfold sv;rw[qP h]
    ·intro h;rw[ux,show min (x - s) d=d by omega];omega
   have q2:d<=x - s->n*(x - s)<=sv m d n (x - s):=λh=>by rw[hsv.2 h];have:=(lI hc (by omega:n<=m)).1;omega
   unfold RN.at;simp only[hb,if_true];rcases Int.le_total (x - s) d with c|c
   ·rw[hsv.1 c];split<;>split<;>omega
   ·have:=hsv.2 c;have:=q2 c;split<;>split<;>omega
end Go.Proofs.YtfdlemkplejdnaaGreat
