/- WholeBehind, part 29. Conditions: none. -/
import Derived.Test.YtfdlemkplejdnaaGreatA25
namespace Go.Proofs.YtfdlemkplejdnaaGreat
open Go.RowKit Go.Sort
open Value renaming int->ι,pointer->ψ,slice->ζ,tuple->χ,agg->φ,map->μ,bool->β
open IntKind renaming u64->υ,i64->ε,u16->ω
open Ending renaming returned->ϰ
open Go.Proofs.Tryz renaming prog->Ψ,underlying3->Θ,underlying147->Δ,underlying152->Γ,underlying202->Φ,underlying39->Ξ,underlying207->Ω
open Go renaming World->ϖ,Value->ϗ
set_option linter.unusedVariables false
set_option linter.unusedSimpArgs false
set_option maxHeartbeats 8000000
set_option maxRecDepth 100000
structure Zs (n W Z:Int) (c:CH):Prop where
 has:c.has=true
 r:∃X Y,c.r=⟨LN.zero,⟨X,Y,n⟩,false⟩/\(0<=X/\X<=c.t)/\(0<=Y/\Y<=W)/\Z=n*X - Y+W
 lo:Z<=n*c.t
 hi:n*c.t<Z+n
def CH.X (c:CH):Int:=c.r.t.X
section
variable {n W Z:Int} {c:CH}
theorem iI {X Y:Int} (hn:1<=n/\n<=Md)(hX:0<=X/\X<Mc)(hY:0<=Y/\Y<=72057594037927936):(⟨X,Y,n⟩:LN).small:=by unfold LN.small gA;simp only[];omega
theorem lz {X Y:Int} (hn:1<=n/\n<=Md)(hX:0<=X/\X<=4611686018427387904)(hY:0<=Y/\Y<=W)(hW:W<=72057594037927936):
  X<=(⟨X,Y,n⟩:LN).time W/\n*X - Y+W<=n*(⟨X,Y,n⟩:LN).time W/\n*(⟨X,Y,n⟩:LN).time W<n*X - Y+W+n:=by
 have hs:=iI (n:=n) hn ⟨hX.1,by omega⟩ (Y:=Y) ρa;have ht:=LN.time_lt hs (W:=W) ρa (by show 0<n;omega) hX.2 ρP;obtain⟨h1,h2,h3⟩:=LN.time_steps hs hY.1 hY.2 ρa (by show 0<n;omega);simp only[Int.mul_sub] at h1 h2 h3;omega
theorem Zs.took (h:Zs n W Z c)(hn:1<=n/\n<=Md)(hX:c.X<=4611686018427387904) {p:Int} (hp:W<=p*65536)(hW:p*65536<=72057594037927936):Zs n (p*65536) (Z+(p*65536 - W)) (c.took p)/\(c.took p).X=c.X:=by
 obtain⟨X,Y,hr,hX1,hY,hZ⟩:=h.r;have hX2:X<=4611686018427387904:=by unfold CH.X at hX;rw[hr] at hX;exact hX
 obtain⟨t1,t2,t3⟩:=lz (n:=n) (W:=p*65536) (Y:=Y) hn ⟨hX1.1,hX2⟩ ⟨hY.1,by omega⟩ hW;have e:c.took p=⟨c.has,c.r,c.r.time p⟩:=by unfold CH.took;rw[ZP h.has]
 have et:c.r.time p=(⟨X,Y,n⟩:LN).time (p*65536):=by rw[RN.time_eq,hr];rfl
 rw[e];refine⟨⟨h.has,⟨X,Y,hr,⟨hX1.1,?_⟩,⟨hY.1,by omega⟩,by omega⟩,?_,?_⟩,rfl⟩
 ·show X<=c.r.time p;rw[et];exact t1
 ·show _<=n*c.r.time p;rw[et];omega
 ·show n*c.r.time p<_;rw[et];omega
theorem Zs.first {m d low p:Int} (hk:kd m d n=2)(hn:1<=n/\n<=Md)(hl:0<=low/\low<=4611686018427387904)(hp:0<=p*65536/\p*65536<=72057594037927936)(h:c.has=false):Zs n (p*65536) (n*low) (c.wake m d n low p)/\(c.wake m d n low p).X=low/\(c.wake m d n low p).t=low:=by
 obtain⟨t1,t2,t3⟩:=lz (n:=n) (X:=low) (Y:=p*65536) (W:=p*65536) hn hl ⟨hp.1,ZJ _⟩ hp.2;have e:c.wake m d n low p=⟨true,⟨LN.zero,⟨low,p*65536,n⟩,false⟩,(⟨LN.zero,⟨low,p*65536,n⟩,false⟩:RN).time p⟩:=by unfold CH.wake;simp only[h,Bool.false_eq_true,if_false];rw[uk hk]
 have et:(⟨LN.zero,⟨low,p*65536,n⟩,false⟩:RN).time p=(⟨low,p*65536,n⟩:LN).time (p*65536):=by rw[RN.time_eq];rfl
 rw[e,et];have e2:(⟨low,p*65536,n⟩:LN).time (p*65536)=low:=by have:=LN.time_new (iI (n:=n) (X:=low) (Y:=p*65536) hn ⟨hl.1,by omega⟩ hp) (W:=p*65536) hp.1 (ZJ _) (by show low<_;omega);exact this
 rw[e2];exact⟨⟨rfl,⟨low,p*65536,rfl,⟨hl.1,ZJ _⟩,⟨hp.1,ZJ _⟩,by omega⟩,by show n*low<=n*low;omega,by show n*low<n*low+n;omega⟩,rfl,rfl⟩
theorem gc {a b:Int} (hn:1<=n)(h:n*a<n*b):a<b:=Int.lt_of_mul_lt_mul_left h ρa
theorem Zs.woke {m d low p:Int} (hk:kd m d n=2)(hn:1<=n/\n<=Md)(hl:0<=low/\low<=4611686018427387904)(hp:0<=p*65536/\p*65536<=72057594037927936)(h:Zs n (p*65536) Z c)(hX:c.X<=low):Zs n (p*65536) (max Z (n*low)) (c.wake m d n low p)/\(c.wake m d n low p).X<=low/\(c.wake m d n low p).t=max low c.t:=by
 obtain⟨X,Y,hr,hX1,hY,hZ⟩:=h.r;have hX2:X<=low:=by unfold CH.X at hX;rw[hr] at hX;exact hX
 have Uo:=h.lo;have Wk:=h.hi;have e:c.wake m d n low p=⟨true,RN.meet c.r ⟨LN.zero,⟨low,p*65536,n⟩,false⟩,(RN.meet c.r ⟨LN.zero,⟨low,p*65536,n⟩,false⟩).time p⟩:=by unfold CH.wake;simp only[h.has,if_true];rw[uk hk]
 have hs:=iI (n:=n) (X:=X) (Y:=Y) hn ⟨hX1.1,by omega⟩ ρa;have a1:la low (p*65536) n low=p*65536:=LN.at_lo (l:=⟨low,p*65536,n⟩) (x:=low) (ZJ _);have a2:la X Y n low=Y+n*(low - X):=LN.at_from hs (x:=low) hX2 ρa;have em:RN.meet c.r ⟨LN.zero,⟨low,p*65536,n⟩,false⟩=⟨LN.zero,if p*65536<Y+n*(low - X) then ⟨low,p*65536,n⟩ else ⟨X,Y,n⟩,false⟩:=by rw[hr];unfold RN.meet LN.low LN.lowB Go.Proofs.YtfdlemkplejdnaaGreat.lowB;simp only[Bool.false_eq_true,if_false,show max X low=low by omega,a1,a2,decide_eq_true_eq]
 rw[e,em];rw[Int.mul_sub];by_cases hc:p*65536<Y+(n*low - n*X)
 ·rw[ZP hc];have et:(⟨LN.zero,⟨low,p*65536,n⟩,false⟩:RN).time p=low:=by
   rw[RN.time_eq];exact LN.time_new (iI (n:=n) (X:=low) (Y:=p*65536) hn ⟨hl.1,by omega⟩ hp) (W:=p*65536) hp.1 (ZJ _) (by show low<_;omega)
  rw[et];have NE:c.t<low+1:=gc (n:=n) hn.1 κh;refine⟨⟨rfl,⟨low,p*65536,rfl,⟨hl.1,ZJ _⟩,⟨hp.1,ZJ _⟩,by omega⟩,by show _<=n*low;omega,by show n*low<_;omega⟩,ZJ _,by show low=_;omega⟩
 ·rw[ZI hc];obtain⟨t1,t2,t3⟩:=lz (n:=n) (X:=X) (Y:=Y) (W:=p*65536) hn ⟨hX1.1,by omega⟩ hY hp.2;have et:(⟨LN.zero,⟨X,Y,n⟩,false⟩:RN).time p=(⟨X,Y,n⟩:LN).time (p*65536):=by rw[RN.time_eq];rfl
  rw[et];obtain⟨t,ht⟩:=Nq ((⟨X,Y,n⟩:LN).time (p*65536));rw[ht] at t1 t2 t3 ⊢;have e1:t<c.t+1:=gc (n:=n) hn.1 κh;have e2:c.t<t+1:=gc (n:=n) hn.1 κh;have e3:low<c.t+1:=gc (n:=n) hn.1 κh;refine⟨⟨rfl,⟨X,Y,rfl,⟨hX1.1,t1⟩,hY,by omega⟩,by show _<=n*t;omega,by show n*t<_;omega⟩,hX2,by show t=_;omega⟩
end
section
variable {s t:SS} {i j p b:Int}
theorem vF (s:SS)(y p b:Int):(s.sleep1 y).kd p b=none\/(s.sleep1 y).kd p b=s.kd p b:=by
 unfold SS.sleep1 aw;dsimp only;by_cases hp:p=(s.e y).c.par
 ·rw[ZP hp];unfold aJ;by_cases hb:b=y
  ·left;rw[ZP hb]
  ·right;rw[ZI hb,hp]
 ·right;rw[ZI hp]
theorem nw:∀(ys:List Int)(s:SS)(p b:Int),(ys.foldl SS.sleep1 s).kd p b≠none->s.kd p b≠none
 | [],_,_,_,h=>h
 | y::r,s,p,b,h=>by
  have h1:=nw r (s.sleep1 y) p b h;rcases vF s y p b with g|g
  ·exact ax g h1
  ·rw[<- g];exact h1
theorem qG (s:SS)(y j b:Int)(h:(s.sleep1 y).kd (s.e j).c.par b≠none):((s.sleep1 y).e j).sh=(s.e j).sh/\((s.sleep1 y).e j).c=(s.e j).c:=by
 unfold SS.sleep1 at h ⊢;dsimp only at h ⊢;split
 ·rename_i Jg;dsimp only;split
  ·rename_i hj;exfalso;rw[hj.2] at h;unfold aw at h;rw[ZP rfl] at h;exact h (Jg b)
  ·exact⟨rfl,rfl⟩
 ·exact⟨rfl,rfl⟩
theorem kp:∀(ys:List Int)(s:SS)(j b:Int),(ys.foldl SS.sleep1 s).kd (s.e j).c.par b≠none->((ys.foldl SS.sleep1 s).e j).sh=(s.e j).sh
 | [],_,_,_,_=>rfl
 | y::r,s,j,b,h=>by have h1:=nw r (s.sleep1 y) _ b h;obtain⟨g1,g2⟩:=qG s y j b h1;have:=kp r (s.sleep1 y) j b (by rw[g2];exact h);exact this.trans g1
end
theorem ks:∀(ys:List Int)(s:SS)(P j:Int),(∃b,s.kd P b≠none)->(∀b,(ys.foldl SS.sleep1 s).kd P b=none)->(∃d,fc s.L j=some d)->(s.e j).c.par=P->((ys.foldl SS.sleep1 s).e j).sh=CH.zero
 | [],s,P,j,⟨b,hb⟩,h,_,_=>ax (h b) hb
 | y::r,s,P,j,hb,h,hd,hj=>by
  obtain⟨g1,g2,_⟩:=eK s y;obtain⟨_,_,_,_,_,m6,_⟩:=kn s y;by_cases e:∀b,(s.sleep1 y).kd P b=none
  ·have hz:((s.sleep1 y).e j).sh=CH.zero:=by
    have hP:(s.e y).c.par=P:=by refine vW λIX=>?_;obtain⟨b,hb⟩:=hb;have g:=e b;rw[m6,ZI (λg=>IX g.2.symm)] at g;exact hb g
    have Jg:∀b,aJ (s.kd (s.e y).c.par) y none b=none:=λb=>by have g:=e b;rw[<- hP] at g;unfold SS.sleep1 at g;dsimp only at g;rw[show aw s.kd (s.e y).c.par (aJ (s.kd (s.e y).c.par) y none) (s.e y).c.par=aJ (s.kd (s.e y).c.par) y none from ZP rfl] at g;exact g
    unfold SS.sleep1;dsimp only;rw[ZP Jg];have hs:(fc s.L j).isSome=true:=by obtain⟨d,hd⟩:=hd;rw[hd];rfl
    rw[ZP ⟨hs,hj.trans hP.symm⟩]
   rcases jR r (s.sleep1 y) j with g|g
   ·exact g
   ·exact g.trans hz
  ·have e2:∃b,(s.sleep1 y).kd P b≠none:=Classical.not_forall.1 e;exact ks r (s.sleep1 y) P j e2 h (by rw[g1];exact hd) (by rw[(g2 j).1];exact hj)
theorem rj (now:Int):∀(ys:List Int)(s:SS)(j:Int),ys.Nodup->j ∈ ys->((ys.foldl (SS.wake1 now) s).e j).sh=(s.e j).sh.wake (s.e j).c.l0 (s.e j).c.l1 (s.e j).c.l2 (ct (s.kd (s.e j).c.par)) (s.e j).tot
 | [],s,j,_,h=>by simp at h
 | y::r,s,j,hn,h=>by
  have g:(s.wake1 now y).kd=s.kd/\(j≠y->(s.wake1 now y).e j=s.e j)/\(j=y->((s.wake1 now y).e j).sh=(s.e j).sh.wake (s.e j).c.l0 (s.e j).c.l1 (s.e j).c.l2 (ct (s.kd (s.e j).c.par)) (s.e j).tot):=ηr
  obtain⟨g1,g4,g5⟩:=g;rw[ZD] at hn;simp only[List.foldl_cons];by_cases hj:j=y
  ·exact ηX
  ·have hr:j ∈ r:=(ZC.1 h).resolve_left hj;rw[rj now r (s.wake1 now y) j hn.2 hr,g1,g4 hj]
structure tI (s t:SS) (xs:List Int) (len P:Int):Prop where
 sub:∀b,b ∈ t.A.K P->b ∈ s.A.K P
 keep:t.A.K P≠[]->∀j d,fc s.L j=some d->d.par=P->(t.e j).sh=if j ∈ xs then (s.e j).sh.took ((s.e j).tot+len) else (s.e j).sh
 zero:t.A.K P=[]->s.A.K P≠[]->∀j d,fc s.L j=some d->d.par=P->(t.e j).sh=CH.zero
structure yQ (s t:SS) (P:Int):Prop where
 sub:∀b,b ∈ s.A.K P->b ∈ t.A.K P
 old:∀j d,fc s.L j=some d->d.par=P->(j ∈ s.A.K P\/j ∉ t.A.K P)->(t.e j).sh=(s.e j).sh
 new:∀j d,fc s.L j=some d->d.par=P->j ∉ s.A.K P->j ∈ t.A.K P->(t.e j).sh=(s.e j).sh.wake d.l0 d.l1 d.l2 (ct (s.kd P)) (s.e j).tot
section
variable {s:SS} {i:Int} {xs:List Int} {c:CD}
theorem SS.Inv.nz (h:s.Inv) {j:Int} {d:CD} (hd:fc s.L j=some d):j≠0:=λe=>by rw[e,h.lok.nz] at hd;cases hd
theorem SS.Inv.tookS {now:Int} {b:Bool} {p:PK} {r:List PK} (h:s.Inv)(hc:fc s.L i=some c)(hl:c.lf=true)(hq:(s.e i).q=p::r)(Pa:iU s.L i xs)(P:Int):tI s (s.take now i b xs) xs p.len P:=by
 have Lx:=(ZD.1 Pa.nd).2;rw[kQ hq];obtain⟨s0,Ka⟩:=Nq (({s with clk:=now}:SS).setE i {s.e i with q:=r});have f0:s0.L=s.L/\s0.A=s.A/\s0.kd=s.kd/\∀j,(s0.e j).c=(s.e j).c/\(s0.e j).q=(if j=i then r else (s.e j).q)/\(s0.e j).tot=(s.e j).tot/\(s0.e j).sh=(s.e j).sh:=by rw[<- Ka];refine⟨rfl,rfl,rfl,λj=>?_⟩;unfold SS.setE aw;exact ξE
 rw[Ka];obtain⟨a1,a2,a3,a4⟩:=f0;obtain⟨s1,Ju⟩:=Nq (xs.foldl (SS.take1 p.len) s0);have f1:=fu p.len xs s0;have g1:∀j,(s1.e j).sh=if j ∈ xs then (s.e j).sh.took ((s.e j).tot+p.len) else (s.e j).sh:=λj=>by
  obtain⟨_,_,b3,b4⟩:=a4 j;rw[<- Ju];by_cases hj:j ∈ xs
  ·rw[lU Lx hj,ZP hj];simp only[b3,b4]
  ·rw[gh hj,ZI hj,b4]
 rw[Ju] at f1 ⊢;obtain⟨h1,h2,h3,_,h5⟩:=f1;obtain⟨d1,d2,d3,d4,_⟩:=jj (s:=s1) (i:=i) p.len b;obtain⟨s2,Ja⟩:=Nq (s1.due i p.len b);rw[Ja] at d1 d2 d3 d4 ⊢;have L2:s2.L=s.L:=d1.trans (h1.trans a1);have A2:s2.A=s.A:=d2.trans (h3.trans a2);have K2:s2.kd=s.kd:=d3.trans (h2.trans a3);have c2:∀j,(s2.e j).c=(s.e j).c:=λj=>by rw[(d4 j).1,(h5 j).1,(a4 j).1]
 have Rj:∀j,(s2.e j).sh=if j ∈ xs then (s.e j).sh.took ((s.e j).tot+p.len) else (s.e j).sh:=λj=>by rw[(d4 j).2.2.1,g1]
 have plain:tI s (s2.settle xs) xs p.len P:=by
  obtain⟨_,y2,y3,_⟩:=cI s2 xs;refine⟨λb hb=>?_,λ_ j d _ _=>?_,λe1 e2=>?_⟩
  ·rw[y3,A2] at hb;exact hb
  ·rw[y2];exact Rj j
  ·rw[y3,A2] at e1;exact ax e1 e2
 by_cases hr:(s2.e i).q=[]
 ·rw[ZP hr];unfold SS.sleep;rw[c2 i,h.ec i c hc,A2];by_cases MD:dz c=true/\s.A.is i=true
  ·rw[ZP MD];have JX:=Pa.sh (λd hd=>by rw[hc] at hd;cases hd;exact MD.1);have oni:∀y ∈ xs.tail,aw s.A.on i false y=false:=λy hy=>by
    unfold aw;split
    ·rfl
    ·cases ho:s.A.on y with
     | false=>rfl
     | true=>obtain⟨d,hd,KZ,_⟩:=(h.on y).1 ho;obtain⟨d',LS,N5⟩:=Pa.inn y hy;exact ηA
   have hK0:s.A.K i=[]:=h.leaf hc hl;have YN:mK s.L (aw s.A.on i false) s.A.K i:=λq j hj=>by rw[h.kk q j,show aw s.A.on i false j=s.A.on j from ZI hj]
   obtain⟨o1,o2,o3,o4⟩:=lE h.lok.nz JX Pa.ne Pa.nd oni YN (λd hd q hm=>by
    obtain⟨d',LS,e,_⟩:=(h.kk q i).1 hm;rw[hd] at LS;cases LS;exact e.symm) (by
     rw[show aw s.A.on i false i=false from ZP rfl,hK0];rintro(g|g)
     ·cases g
     ·exact g rfl)
   obtain⟨s3,KG⟩:=Nq ({s2 with A:=⟨aw s.A.on i false,(aH s.A.K xs).2⟩}:SS);have a3:s3.L=s.L/\s3.e=s2.e/\s3.A=⟨aw s.A.on i false,(aH s.A.K xs).2⟩/\s3.kd=s.kd:=by rw[<- KG];exact⟨L2,rfl,rfl,K2⟩
   obtain⟨Xz,Pg,QH,Qf⟩:=a3;rw[KG];obtain⟨_,z2,_,_,z5,_⟩:=fI (aH s.A.K xs).1 s3;have Rf:∀j d,fc s.L j=some d->(s3.e j).c.par=d.par:=λj d hd=>by rw[Pg,c2,h.ec j d hd]
   obtain⟨_,y2,y3,_⟩:=cI ((aH s.A.K xs).1.foldl SS.sleep1 s3) xs;have KP:(((aH s.A.K xs).1.foldl SS.sleep1 s3).settle xs).A.K P=(aH s.A.K xs).2 P:=by rw[y3,z2,QH]
   refine⟨λb hb=>?_,λIX j d hd JW=>?_,λe1 e2 j d hd JW=>?_⟩
   ·rw[KP] at hb;exact o3 P b hb
   ·obtain⟨b,hb⟩:=List.exists_mem_of_ne_nil _ IX;rw[KP] at hb;have XZ:((aH s.A.K xs).1.foldl SS.sleep1 s3).kd (s3.e j).c.par b≠none:=by
     rw[Rf j d hd,JW,z5,ZI,Qf,h.kd b P,ZP (o3 P b hb)]
     ·simp
     ·rintro⟨g,_⟩;obtain⟨_,_,_,_,ga⟩:=(o1 P b).1 hb;exact(o2 b (eV b g)).1 g ga
    rw[y2,kp _ s3 j b XZ,Pg];exact Rj j
   ·rw[KP] at e1;obtain⟨b0,OH⟩:=List.exists_mem_of_ne_nil _ e2;rw[y2];refine ks _ s3 P j ⟨b0,by rw[Qf,h.kd b0 P,ZP OH];simp⟩ (λb=>?_) ⟨d,by rw[Xz];exact hd⟩ (by rw[Rf j d hd];exact JW);rw[z5];by_cases hb:b ∈ s.A.K P
    ·obtain⟨db,g1,g2,g3,g4⟩:=(h.kk P b).1 hb;rw[ZP];refine⟨?_,by rw[Rf b db g1];exact g2.symm⟩;have no:¬(aw s.A.on i false b=true\/(aH s.A.K xs).2 b≠[]):=λg=>by
      have:=(o1 P b).2 ⟨db,g1,g2,g3,g⟩;rw[e1] at this;cases this
     by_cases hx:b ∈ xs
     ·exact(o2 b hx).2 no
     ·exfalso;refine no ?_;rw[o4 b (h.nz g1) (λg=>hx (List.mem_of_mem_tail g)),show aw s.A.on i false b=s.A.on b from ZI (λe=>hx (by rw[e];exact Pa.hd))];exact g4
    ·split
     ·rfl
     ·rw[Qf,h.kd b P,ZI hb]
  ·rw[ZI MD];exact plain
 ·rw[ZI hr];exact plain
theorem SS.Inv.putS {now:Int} {p:PK} {t:SS} (h:s.Inv)(Pa:∀c,fc s.L i=some c->iU s.L i xs)(e:s.put now i p xs=(0,t))(P:Int):yQ s t P:=by
 unfold SS.put at e;split at e
 ·cases e
 cases hc:fc s.L i with
 | none=>simp only[hc] at e;cases e
 | some c=>
  simp only[hc] at e;by_cases g1:c.lf=false
  ·rw[ZP g1] at e;cases e
  rw[ZI g1] at e;split at e
  ·cases e
  split at e
  ·cases e
  split at e
  ·cases e
  have hl:c.lf=true:=by simpa using g1
  have Jj:=h.ec i c hc;have Pc:=Pa c hc;have Lx:=(ZD.1 Pc.nd).2;obtain⟨s1,Ju⟩:=Nq ({({s with clk:=now}:SS).setE i {s.e i with q:=(s.e i).q++[p]} with acc:=s.acc+p.len}:SS);have f1:s1.L=s.L/\s1.A=s.A/\s1.kd=s.kd/\∀j,(s1.e j).c=(s.e j).c/\(s1.e j).tot=(s.e j).tot/\(s1.e j).sh=(s.e j).sh:=by rw[<- Ju];refine⟨rfl,rfl,rfl,λj=>?_⟩;unfold SS.setE aw;exact ξE
  have same:∀u:SS,u.A=s.A->(∀j,(u.e j).sh=(s.e j).sh)->yQ s u P:=λu hA hs=>⟨λb hb=>by rw[hA];exact hb,λj d _ _ _=>hs j,λj d _ _ g1 g2=>by rw[hA] at g2;exact ax g2 g1⟩;split at e
  ·rename_i hq;have hq:(s.e i).q=[]:=hq;have e2:s1.wake now i p.len xs=t:=by rw[<- Ju];exact(Prod.mk.inj e).2
   clear e Ju;rw[<- e2];clear e2;obtain⟨a1,a2,a3,a4⟩:=f1;unfold SS.wake;simp only[];rw[show (s1.e i).c=c from(a4 i).1.trans Jj];obtain⟨s2,Ja⟩:=Nq (if SS.real c then s1.duesTo i (((s1.e i).du.woke c.r0 c.r1 c.r2 now).headed p.len) else s1);have two:s2.L=s.L/\s2.A=s.A/\s2.kd=s.kd/\∀j,(s2.e j).c=(s.e j).c/\(s2.e j).tot=(s.e j).tot/\(s2.e j).sh=(s.e j).sh:=by
    rw[<- Ja];split
    ·refine⟨a1,a2,a3,λj=>?_⟩;rw[<- (a4 j).1,<- (a4 j).2.1,<- (a4 j).2.2];unfold SS.duesTo SS.setE aw;exact ξE
    ·exact⟨a1,a2,a3,a4⟩
   rw[Ja];obtain⟨b1,b2,b3,b4⟩:=two;by_cases hs:dz c=true
   ·rw[ZP hs];unfold SS.wakeS;rw[b2];have JX:=Pc.sh τv;have hK0:s.A.K i=[]:=h.leaf hc hl;have hoi:s.A.on i=false:=by
     cases ho:s.A.on i with
     | false=>rfl
     | true=>obtain⟨d,_,_,_,g⟩:=(h.on i).1 ho;exact ax hq g
    have onx:∀y ∈ xs.tail,s.A.on y=false:=λy hy=>by
     obtain⟨d',LS,N5⟩:=Pc.inn y hy;cases ho:s.A.on y with
     | false=>rfl
     | true=>obtain⟨d,hd,KZ,_⟩:=(h.on y).1 ho;exact ηA
    have oni:∀y ∈ xs.tail,aw s.A.on i true y=false:=λy hy=>by
     obtain⟨d',LS,N5⟩:=Pc.inn y hy;unfold aw;split
     ·rename_i e;rw[e,hc] at LS;cases LS;rw[hl] at N5;cases N5
     ·exact onx y hy
    have YN:mK s.L (aw s.A.on i true) s.A.K i:=λq j hj=>by rw[h.kk q j,show aw s.A.on i true j=s.A.on j from ZI hj]
    have ni:∀q,i ∉ s.A.K q:=λq hm=>ηV
    have ti:aw s.A.on i true i=true:=ZP rfl;obtain⟨o1,o2,o3⟩:=oL h.lok.nz JX Pc.ne Pc.nd oni YN ni (.inl ti);have up:∀y ∈ xs.tail,(aX s.A.K xs).2 y≠[]:=(ge (x:=0) JX (λq j _=>o1 q j) (ZD.1 Pc.nd).1 (λ_=>.inl ti)).1;have tail:∀y ∈ xs,y≠i->y ∈ xs.tail:=λy hy IX=>by
     cases xs with
     | nil=>cases hy
     | cons z r=>obtain⟨rfl,_⟩:=JX.head;exact(ZC.1 hy).resolve_left IX
    obtain⟨s3,KG⟩:=Nq ({s2 with A:=⟨aw s.A.on i true,(aX s.A.K xs).2⟩}:SS);have a3:s3.L=s.L/\s3.e=s2.e/\s3.A=⟨aw s.A.on i true,(aX s.A.K xs).2⟩/\s3.kd=s.kd:=by rw[<- KG];exact⟨b1,rfl,rfl,b3⟩
    obtain⟨Xz,Pg,QH,Qf⟩:=a3;rw[KG];obtain⟨_,z2,_,_,z5,_⟩:=gm now (aX s.A.K xs).1 s3;obtain⟨_,y2,y3,_⟩:=cI ((aX s.A.K xs).1.foldl (SS.wake1 now) s3) xs;have KP:(((aX s.A.K xs).1.foldl (SS.wake1 now) s3).settle xs).A.K P=(aX s.A.K xs).2 P:=by rw[y3,z2,QH]
    have keep:∀j,j ∉ (aX s.A.K xs).1->((((aX s.A.K xs).1.foldl (SS.wake1 now) s3).settle xs).e j).sh=(s.e j).sh:=λj hj=>by rw[y2,(z5 j).2.2.2.2 hj,Pg,(b4 j).2.2]
    refine⟨λb hb=>by rw[KP];exact o3 P b hb,λj d hd JW hj=>keep j λg=>?_,λj d hd JW g1 g2=>?_⟩
    ·obtain⟨hx,hk⟩:=(o2 j).1 g;rcases hj with hj|hj
     ·by_cases K6:j=i
      ·exact ni P (K6 ▸ hj)
      ·obtain⟨_,_,_,_,ga⟩:=(h.kk P j).1 hj;rcases ga with ga|ga
       ·rw[onx j (tail j hx K6)] at ga;cases ga
       ·exact ga (hk.resolve_left K6)
     ·refine hj ?_;rw[KP];have Yh:dz d=true:=by
       have key:∀(xs:List Int) (k:Int),bM s.L k xs->∀y ∈ xs,∃d,fc s.L y=some d/\dz d=true:=by
        intro xs
        induction xs with
        | nil=>intro k _ y hy;cases hy
        | cons z r ih=>
         intro k hk y hy;obtain⟨rfl,c',g1,g2,g3⟩:=hk.head;rcases ZC.1 hy with rfl|hy
         ·exact⟨c',g1,g2⟩
         ·exact ih _ g3 y hy
       obtain⟨d',g1,g2⟩:=key xs i JX j hx;rw[hd] at g1;cases g1;exact g2
      refine(o1 P j).2 ⟨d,hd,JW,Yh,?_⟩;by_cases K6:j=i
      ·left;rw[K6];exact ti
      ·right;exact up j (tail j hx K6)
    ·rw[KP] at g2;obtain⟨d',k1,k2,k3,k4⟩:=(o1 P j).1 g2;rw[hd] at k1;cases k1;have hx:j ∈ xs:=vW λhx=>by
      refine g1 ((h.kk P j).2 ⟨d,hd,JW,k3,?_⟩);rw[oK (h.nz hd) (λg=>hx (List.mem_of_mem_tail g)),show aw s.A.on i true j=s.A.on j from ZI (λe=>hx (by rw[e];exact Pc.hd))] at k4;exact k4
     have hy:j ∈ (aX s.A.K xs).1:=by
      refine(o2 j).2 ⟨hx,?_⟩;by_cases K6:j=i
      ·exact .inl K6
      ·right;exact vW λhk=>g1 ((h.kk P j).2 ⟨d,hd,JW,k3,.inr hk⟩)
     rw[y2,rj now _ s3 j (i7 Lx) hy,Pg,Qf,(b4 j).1,(b4 j).2.1,(b4 j).2.2,h.ec j d hd,JW]
   ·rw[ZI hs];exact same s2 b2 (λj=>(b4 j).2.2)
  ·have e2:s1=t:=by rw[<- Ju];exact(Prod.mk.inj e).2
   rw[<- e2];exact same s1 f1.2.1 (λj=>(f1.2.2.2 j).2.2)
end
theorem pQ (f:Int->Int):∀(l:List Int),l≠[]->∃b ∈ l,∀x ∈ l,f b<=f x
 | [],h=>ax rfl h
 | [a],_=>⟨a,by simp,λx hx=>by rw[ZS.1 hx];exact ZJ _⟩
 | a::c::r,_=>by
  obtain⟨b,hb,h⟩:=pQ f (c::r) ρp;by_cases e:f a<=f b
  ·refine⟨a,by simp,λx hx=>?_⟩;rcases ZC.1 hx with rfl|hx
   ·exact ZJ _
   ·exact Int.le_trans e (h x hx)
  ·refine⟨b,rt _ hb,λx hx=>?_⟩;rcases ZC.1 hx with rfl|hx
   ·omega
   ·exact h x hx
section
variable {s:SS} {P:Int}
theorem SS.Inv.kdm (h:s.Inv) {p j:Int} {q:Int × Int} (hq:s.kd p j=some q):j ∈ s.A.K p/\q=((s.e j).sh.t,s.fit j):=by
 rw[h.kd j p] at hq;by_cases hm:j ∈ s.A.K p
 ·rw[ZP hm] at hq;exact⟨hm,(Option.some.inj hq).symm⟩
 ·rw[ZI hm] at hq;cases hq
theorem SS.Inv.low_least (h:s.Inv)(hn:s.A.K P≠[]):(∃b ∈ s.A.K P,ct (s.kd P)=(s.e b).sh.t)/\∀b ∈ s.A.K P,ct (s.kd P)<=(s.e b).sh.t:=by
 obtain⟨b,hb,hl⟩:=pQ (λb=>(s.e b).sh.t) _ hn;have e:ct (s.kd P)=(s.e b).sh.t:=oJ (ok:=true) ⟨⟨b,((s.e b).sh.t,s.fit b),by rw[h.kd b P,ZP hb],rfl⟩,λj q hq=>by obtain⟨hm,rfl⟩:=h.kdm hq;exact hl j hm⟩
 exact⟨⟨b,hb,e⟩,λx hx=>by rw[e];exact hl x hx⟩
theorem SS.Inv.low_none (h:s.Inv)(hn:s.A.K P=[]):ct (s.kd P)=0:=oJ (ok:=false) ⟨rfl,λj=>by rw[h.kd j P,hn];exact ZI ρp⟩
theorem SS.Inv.fit_zero (h:s.Inv)(hz:∀j,(s.e j).cp.t=0) {j:Int} {c:CD} (hc:fc s.L j=some c):s.fit j=0:=by
 obtain⟨rk,hr⟩:=h.lok.rk;have Ra:∀n j c,fc s.L j=some c->900 - rk j<n->s.fit j=0:=by
  intro n
  induction n with
  | zero=>intro j c _ hn;omega
  | succ n ih=>
   intro j c hc hn;unfold SS.fit;split
   ·exact hz j
   ·rename_i g;have JK:c.lf=false:=by
     cases hl:c.lf with
     | false=>rfl
     | true=>exact ax (.inl (by rw[h.ec j c hc];exact hl)) g
    have ha:s.A.is j=true:=by
     cases ha:s.A.is j with
     | true=>rfl
     | false=>exact ax (.inr ha) g
    have hK:s.A.K j≠[]:=by
     rcases dX.1 ha with ho|hk
     ·obtain⟨d,hd,KZ,_⟩:=(h.on j).1 ho;rw[hc] at hd;cases hd;rw[JK] at KZ;cases KZ
     ·exact hk
    have N7:∀k ∈ s.A.K j,s.fit k=0:=λk hk=>by obtain⟨d,hd,hp,_⟩:=(h.kk j k).1 hk;have h1:=hr k d hd;have h2:=h1.2 (by rw[hp];exact h.nz hc);rw[hp] at h2;exact ih k d hd ρa
    obtain⟨k,hk⟩:=List.exists_mem_of_ne_nil _ hK;have e:fitT (s.kd j)=0:=n7 ⟨.inr ⟨k,((s.e k).sh.t,s.fit k),by rw[h.kd k j,ZP hk],(N7 k hk).symm⟩,by omega,λk' q hq=>by obtain⟨hm,rfl⟩:=h.kdm hq;show 0<=s.fit k';rw[N7 k' hm];exact ZJ _⟩
    rw[e];have:=hz j;omega
 exact Ra (900 - rk j+1) j c hc ρa
theorem SS.Inv.pick_least (h:s.Inv)(hz:∀j,(s.e j).cp.t=0) {now c:Int} (hp:jW (s.kd P) now c true)(hn:0<=now):c ∈ s.A.K P/\∀b ∈ s.A.K P,(s.e c).sh.t<=(s.e b).sh.t:=by obtain⟨x,hx,_,h2⟩:=hp;obtain⟨hm,rfl⟩:=h.kdm hx;refine⟨hm,λb hb=>?_⟩;obtain⟨d,hd,_⟩:=(h.kk P b).1 hb;have:=h2 b ((s.e b).sh.t,s.fit b) (by rw[h.kd b P,ZP hb]) (by show s.fit b<=now;rw[h.fit_zero hz hd];exact hn);simp only at this;omega
theorem SS.Inv.chain (h:s.Inv) {now:Int} {p:Int} {r:Option Int} (hc:SS.Chain s now p r):∀i,r=some i->∀zs,bQ s.L p zs->∃ys,bQ s.L i (ys++zs)/\∀y ∈ ys,∃d,fc s.L y=some d/\jW (s.kd d.par) (min now Mb) y true:=by
 induction hc with
 | none _=>intro i e;cases e
 | @leaf p k hp hl=>
  intro i e zs hu;cases e
  obtain⟨x,hx,_⟩:=id hp;obtain⟨d,hd,JW,_⟩:=(h.kk p k).1 (h.kdm hx).1;exact⟨[k],⟨d,hd,rfl,by rw[JW];exact hu⟩,λy hy=>by rw[ZS.1 hy];exact⟨d,hd,by rw[JW];exact hp⟩⟩
 | @inner p k r hp hl _ ih=>
  intro i e zs hu;obtain⟨x,hx,_⟩:=id hp;obtain⟨d,hd,JW,_⟩:=(h.kk p k).1 (h.kdm hx).1;obtain⟨ys,g1,g2⟩:=ih i e (k::zs) ⟨d,hd,rfl,by rw[JW];exact hu⟩;refine⟨ys++[k],by rw[List.append_assoc];exact g1,λy hy=>?_⟩;rcases ZM.1 hy with g|g
  ·exact g2 y g
  ·rw[ZS.1 g];exact⟨d,hd,by rw[JW];exact hp⟩
theorem SS.Inv.chosen_least (h:s.Inv)(hz:∀j,(s.e j).cp.t=0)(hr:∀j c,fc s.L j=some c->SS.real c=false) {now i:Int} {x:Bool} {xs:List Int} (hn:0<=now)(Jq:SS.Choose s now (some (i,x)))(hu:bQ s.L i xs):∀y ∈ xs,∀d,fc s.L y=some d->y ∈ s.A.K d.par/\∀b ∈ s.A.K d.par,(s.e y).sh.t<=(s.e b).sh.t:=by
 rcases Jq with ⟨k,hk,e⟩|⟨_,⟨k,hk,e⟩|⟨_,e⟩⟩
 ·obtain⟨q,hq,_⟩:=hk;obtain⟨c,hc,_,g,_⟩:=h.lvn hq;rw[hr k c hc] at g;cases g
 ·obtain⟨rfl,rfl⟩:i=k/\x=false:=by cases e;exact⟨rfl,rfl⟩
  obtain⟨ys,g1,g2⟩:=h.chain hk i rfl [] h.lok.nz;rw[ZA] at g1;rw[iz hu g1];intro y hy d hd;obtain⟨d',LS,g⟩:=g2 y hy;rw[hd] at LS;cases LS;exact h.pick_least hz g ρa
 ·cases e
end
structure nJ (L:List CD) (P g Lm:Int):Prop where
 gn:0<=g
 lin:∀c ∈ L,c.par=P->dz c=true->kd c.l0 c.l1 c.l2=2/\(1<=c.l2/\c.l2<=Md)/\65536*Lm<=c.l2*g
 real:∀c ∈ L,SS.real c=false
 leaf:∀c ∈ L,c.lf=true->dz c=true
structure SS.J (s:SS) (P g:Int):Prop where
 sp:∀a c,fc s.L a=some c->c.par=P->(s.e a).sh.has=true->∀b ∈ s.A.K P,(s.e a).sh.t<=(s.e b).sh.t+g/\(s.e a).sh.X<=(s.e b).sh.t
 zs:∀a c,fc s.L a=some c->c.par=P->(s.e a).sh.has=true->(dz c=true/\∃Z,Zs c.l2 ((s.e a).tot*65536) Z (s.e a).sh)/\(s.e a).sh.t<=65536*(s.acc - s.bys)
 ac:∀b ∈ s.A.K P,(s.e b).sh.has=true
 no:s.A.K P=[]->∀a c,fc s.L a=some c->c.par=P->(s.e a).sh.has=false
section
variable {n W Z d g:Int} {c c':CH}
theorem mY {a b:Int} (hn:1<=n)(h:n*a<n*b+n):a<=b:=by have:a<b+1:=gc (n:=n) hn (by rw[Int.mul_add,Int.mul_one];exact h);omega
theorem Zs.step {W':Int} (h:Zs n W Z c)(h':Zs n W' (Z+d) c')(hn:1<=n)(hd:0<=d)(hg:d<=n*g):c.t<=c'.t/\c'.t<=c.t+g:=by have a1:=h.lo;have a2:=h.hi;have b1:=h'.lo;have b2:=h'.hi;exact⟨mY (n:=n) hn ρa,mY (n:=n) hn κh⟩
theorem ix (c:CH)(p:Int):(c.took p).has=c.has/\(c.took p).r=c.r:=by unfold CH.took;split<;>exact⟨rfl,rfl⟩
end
section
variable {s t:SS} {i P g:Int} {xs:List Int} {p:PK} {r:List PK} {now:Int} {x:Bool}
theorem SS.J.take (J:s.J P g)(I:s.Inv)(N:s.Num)(C:nJ s.L P g s.Lm)(T:kT s t now i x xs p r)(S:tI s t xs p.len P)(hq:(s.e i).q=p::r)(hi:∃c,fc s.L i=some c)(hl:∀y ∈ xs,∀d,fc s.L y=some d->d.par=P->y ∈ s.A.K P/\∀b ∈ s.A.K P,(s.e y).sh.t<=(s.e b).sh.t):t.J P g:=by
 obtain⟨ci,MN⟩:=hi;have hb:=(T.bys N ((fg I.lok).2 ⟨ci,MN⟩) hq).1;have hp:=N.pk i ci MN p (by rw[hq];simp);have XP:0<=t.bys:=by
  have h0:0<=t.bys:=by
   unfold SS.bys;refine eM λj hj=>lg λq Kk=>?_;rw[T.q j] at Kk;have XY:j ∈ s.ids:=by unfold SS.ids at hj ⊢;rw[<- T.L];exact hj
   obtain⟨d,hd⟩:=(fg I.lok).1 XY;split at Kk
   ·rename_i e;have:=N.pk i ci MN q (by rw[hq];exact rt _ Kk);omega
   ·have:=N.pk j d hd q Kk;omega
  exact h0
 have XN:=N.acc;have step:∀a c,fc s.L a=some c->c.par=P->(s.e a).sh.has=true->(∃Z,Zs c.l2 (((s.e a).tot+p.len)*65536) Z ((s.e a).sh.took ((s.e a).tot+p.len)))/\((s.e a).sh.took ((s.e a).tot+p.len)).X=(s.e a).sh.X/\(s.e a).sh.t<=((s.e a).sh.took ((s.e a).tot+p.len)).t/\((s.e a).sh.took ((s.e a).tot+p.len)).t<=(s.e a).sh.t+g/\((s.e a).sh.took ((s.e a).tot+p.len)).t<=(s.e a).sh.t+65536*p.len:=by
  intro a c hc J7 hh;obtain⟨⟨hs,Z,hz⟩,Vp⟩:=J.zs a c hc J7 hh;obtain⟨hk,hn,hg⟩:=C.lin c (cG hc).1 J7 hs;have ht:=N.tot a c hc;obtain⟨X,Y,hr,hX,_⟩:=hz.r;have hXe:(s.e a).sh.X=X:=by unfold CH.X;rw[hr]
  obtain⟨z1,z2⟩:=hz.took hn (by rw[hXe];omega) (p:=(s.e a).tot+p.len) ρa ρa;have hd:0<=((s.e a).tot+p.len)*65536 - (s.e a).tot*65536:=ρa;have e1:((s.e a).tot+p.len)*65536 - (s.e a).tot*65536=65536*p.len:=ρa;have g1:=hz.step z1 hn.1 hd (g:=g) (by rw[e1];omega);have g2:=hz.step z1 hn.1 hd (g:=65536*p.len) (by
   rw[e1];have:=Int.mul_le_mul_of_nonneg_right hn.1 (show 0<=65536*p.len by omega);omega)
  exact⟨⟨_,z1⟩,z2,g1.1,g1.2,g2.2⟩
 by_cases hK:t.A.K P=[]
 ·have NF:∀a c,fc s.L a=some c->c.par=P->(t.e a).sh.has=false:=by
   intro a c hc J7;by_cases hs:s.A.K P=[]
   ·have h0:=J.no hs a c hc J7;rcases T.sh a with g|g
    ·rw[g];rfl
    ·rw[g];split
     ·rw[(ix _ _).1];exact h0
     ·exact h0
   ·rw[S.zero hK hs a c hc J7];rfl
  have no:∀b,b ∉ t.A.K P:=λb hb=>by rw[hK] at hb;cases hb
  refine⟨λa c hc J7 hh b hb=>ax hb (no b),λa c hc J7 hh=>?_,λb hb=>ax hb (no b),λ_ a c hc J7=>NF a c (T.L ▸ hc) J7⟩;rw[NF a c (T.L ▸ hc) J7] at hh;cases hh
 ·have keep:=S.keep hK;have has:∀a c,fc s.L a=some c->c.par=P->(t.e a).sh.has=(s.e a).sh.has:=λa c hc J7=>by
   rw[keep a c hc J7];split
   ·exact(ix _ _).1
   ·rfl
  have mono:∀a c,fc s.L a=some c->c.par=P->(s.e a).sh.has=true->(s.e a).sh.t<=(t.e a).sh.t:=λa c hc J7 hh=>by
   rw[keep a c hc J7];split
   ·exact(step a c hc J7 hh).2.2.1
   ·exact ZJ _
  have bt:∀b ∈ t.A.K P,b ∈ s.A.K P/\(s.e b).sh.t<=(t.e b).sh.t:=λb hb=>by have f':=S.sub b hb;obtain⟨d,hd,JW,_⟩:=(I.kk P b).1 f';exact⟨f',mono b d hd JW (J.ac b f')⟩
  refine⟨λa c hc J7 hh b hb=>?_,λa c hc J7 hh=>?_,λb hb=>?_,λe=>ax e hK⟩
  ·rw[T.L] at hc;rw[has a c hc J7] at hh;obtain⟨IG,IW⟩:=bt b hb;obtain⟨j1,j2⟩:=J.sp a c hc J7 hh b IG;rw[keep a c hc J7];split
   ·rename_i hax;obtain⟨_,q1,_,q3,_⟩:=step a c hc J7 hh;have:=(hl a hax c hc J7).2 b IG;rw[q1];omega
   ·omega
  ·rw[T.L] at hc;rw[has a c hc J7] at hh;obtain⟨⟨z1,z2⟩,z3⟩:=J.zs a c hc J7 hh;rw[keep a c hc J7,T.tot a,T.acc];split
   ·obtain⟨q0,_,_,_,q4⟩:=step a c hc J7 hh;exact⟨⟨z1,q0⟩,by omega⟩
   ·exact⟨⟨z1,z2⟩,by omega⟩
  ·have f':=S.sub b hb;obtain⟨d,hd,JW,_⟩:=(I.kk P b).1 f';rw[has b d hd JW];exact J.ac b f'
theorem SS.J.low (J:s.J P g)(I:s.Inv)(N:s.Num)(hg:0<=g):(0<=ct (s.kd P)/\ct (s.kd P)<=65536*(s.acc - s.bys))/\(∀b ∈ s.A.K P,ct (s.kd P)<=(s.e b).sh.t)/\∀a c,fc s.L a=some c->c.par=P->(s.e a).sh.has=true->(s.e a).sh.t<=ct (s.kd P)+g/\(s.e a).sh.X<=ct (s.kd P):=by
 by_cases hK:s.A.K P=[]
 ·rw[I.low_none hK];have hb:s.bys<=s.acc\/s.L=[]:=by
   cases hL:s.L with
   | nil=>exact .inr rfl
   | cons c l=>left;have:=N.tot c.id c (I.lok.ids c (by rw[hL];simp));omega
  have IW:s.bys<=s.acc:=by
   rcases hb with hb|hb
   ·exact hb
   ·have:s.bys=0:=by unfold SS.bys SS.ids;rw[hb];rfl
    have:=N.acc;omega
  refine⟨⟨ZJ _,by omega⟩,λb hb=>(by rw[hK] at hb;cases hb),λa c hc J7 hh=>?_⟩;rw[J.no hK a c hc J7] at hh;cases hh
 ·obtain⟨⟨b0,OH,e⟩,hl⟩:=I.low_least hK;obtain⟨d,hd,JW,_⟩:=(I.kk P b0).1 OH;obtain⟨⟨_,Z,hz⟩,h3⟩:=J.zs b0 d hd JW (J.ac b0 OH);have h0:=(N.sh b0 d hd).2.2.2.1;refine⟨by rw[e];exact⟨h0,h3⟩,hl,λa c hc J7 hh=>?_⟩;rw[e];exact J.sp a c hc J7 hh b0 OH
theorem SS.J.woke (J:s.J P g)(I:s.Inv)(N:s.Num)(C:nJ s.L P g s.Lm) {a:Int} {c:CD} (hc:fc s.L a=some c)(J7:c.par=P)(hs:dz c=true):(∃Z,Zs c.l2 ((s.e a).tot*65536) Z ((s.e a).sh.wake c.l0 c.l1 c.l2 (ct (s.kd P)) (s.e a).tot)/\∀Z0,Zs c.l2 ((s.e a).tot*65536) Z0 (s.e a).sh->Z0<=Z)/\((s.e a).sh.wake c.l0 c.l1 c.l2 (ct (s.kd P)) (s.e a).tot).X<=ct (s.kd P)/\ct (s.kd P)<=((s.e a).sh.wake c.l0 c.l1 c.l2 (ct (s.kd P)) (s.e a).tot).t/\((s.e a).sh.wake c.l0 c.l1 c.l2 (ct (s.kd P)) (s.e a).tot).t<=ct (s.kd P)+g/\((s.e a).sh.wake c.l0 c.l1 c.l2 (ct (s.kd P)) (s.e a).tot).t<=65536*(s.acc - s.bys):=by
 obtain⟨⟨l1,l2⟩,l3,l4⟩:=J.low I N C.gn;obtain⟨hk,hn,_⟩:=C.lin c (cG hc).1 J7 hs;have ht:=N.tot a c hc;have XN:=N.acc;have XP:=N.bys_nonneg I;have hg:=C.gn;have Nb:0<=ct (s.kd P)/\ct (s.kd P)<=4611686018427387904:=⟨l1,by omega⟩;have hp:0<=(s.e a).tot*65536/\(s.e a).tot*65536<=72057594037927936:=ρa;cases hh:(s.e a).sh.has with
 | false=>obtain⟨z1,z2,z3⟩:=Zs.first hk hn Nb hp hh;refine⟨⟨_,z1,λZ0 h0=>?_⟩,by rw[z2];exact ZJ _,by rw[z3];exact ZJ _,by rw[z3];omega,by rw[z3];exact l2⟩;have:=h0.has;rw[hh] at this;cases this
 | true=>
  obtain⟨⟨_,Z,hz⟩,h3⟩:=J.zs a c hc J7 hh;obtain⟨k1,k2⟩:=l4 a c hc J7 hh;obtain⟨z1,z2,z3⟩:=hz.woke hk hn Nb hp k2;refine⟨⟨_,z1,λZ0 h0=>?_⟩,z2,by rw[z3];omega,by rw[z3];omega,by rw[z3];omega⟩;obtain⟨X,Y,e,_,_,e2⟩:=h0.r;obtain⟨X',Y',e',_,_,e2'⟩:=hz.r;rw[e] at e';cases e'
  omega
theorem SS.J.put (J:s.J P g)(I:s.Inv)(N:s.Num)(C:nJ s.L P g s.Lm) {c:CD} (F:gN s t now i xs p c)(S:yQ s t P)(It:t.Inv):t.J P g:=by
 have hb:=(F.bys N ((fg I.lok).2 ⟨c,F.cls.1⟩)).1;have IK:t.acc - t.bys=s.acc - s.bys:=by rw[hb,F.acc];omega
 obtain⟨⟨l1,l2⟩,l3,l4⟩:=J.low I N C.gn;have hg:=C.gn
 -- VY child
 have VY:∀a d,fc s.L a=some d->d.par=P->((t.e a).sh=(s.e a).sh/\(a ∈ s.A.K P\/a ∉ t.A.K P))\/(a ∉ s.A.K P/\a ∈ t.A.K P/\dz d=true/\(t.e a).sh=(s.e a).sh.wake d.l0 d.l1 d.l2 (ct (s.kd P)) (s.e a).tot):=λa d hd JW=>by
  by_cases h1:a ∈ s.A.K P
  ·exact .inl ⟨S.old a d hd JW (.inl h1),.inl h1⟩
  ·by_cases h2:a ∈ t.A.K P
   ·right;obtain⟨d',g1,g2,g3,_⟩:=(It.kk P a).1 h2;rw[F.L,hd] at g1;cases g1;exact⟨h1,h2,g3,S.new a d hd JW h1 h2⟩
   ·exact .inl ⟨S.old a d hd JW (.inr h2),.inr h2⟩
 have lows:∀b ∈ t.A.K P,ct (s.kd P)<=(t.e b).sh.t/\(t.e b).sh.has=true:=λb hb=>by
  obtain⟨d,hd,JW,_⟩:=(It.kk P b).1 hb;rw[F.L] at hd;rcases VY b d hd JW with ⟨e,h⟩|⟨h1,_,hs,e⟩
  ·have IY:=h.resolve_right (λg=>g hb);rw[e];exact⟨l3 b IY,J.ac b IY⟩
  ·obtain⟨⟨Z,hz,_⟩,_,w2,_⟩:=J.woke I N C hd JW hs;rw[e];exact⟨w2,hz.has⟩
 refine⟨λa d hd JW hh b hb=>?_,λa d hd JW hh=>?_,λb hb=>(lows b hb).2,λhK a d hd JW=>?_⟩
 ·rw[F.L] at hd;have Vi:=(lows b hb).1;rcases VY a d hd JW with ⟨e,h⟩|⟨h1,_,hs,e⟩
  ·rw[e] at hh ⊢;have:=l4 a d hd JW hh;omega
  ·obtain⟨_,w1,_,w3,_⟩:=J.woke I N C hd JW hs;rw[e];omega
 ·rw[F.L] at hd;rw[F.tot a,IK];rcases VY a d hd JW with ⟨e,h⟩|⟨h1,_,hs,e⟩
  ·rw[e] at hh ⊢;exact J.zs a d hd JW hh
  ·obtain⟨⟨Z,hz,_⟩,_,_,_,w4⟩:=J.woke I N C hd JW hs;rw[e];exact⟨⟨hs,Z,hz⟩,w4⟩
 ·rw[F.L] at hd;have hKs:s.A.K P=[]:=by
   cases e:s.A.K P with
   | nil=>rfl
   | cons b l=>have:=S.sub b (by rw[e];simp);rw[hK] at this;cases this
  have hn:a ∉ t.A.K P:=by rw[hK];simp
  rw[S.old a d hd JW (.inr hn)];exact J.no hKs a d hd JW
end
def CH.Y (c:CH):Int:=c.r.t.Y
def CH.A (n:Int)(c:CH):Int:=n*c.X - c.Y
structure kJ (s0:SS) (P i j m n g:Int) (s:SS):Prop where
 act:i ∈ s.A.K P
 run:(s.e i).sh.r=(s0.e i).sh.r
 tot:(s0.e i).tot<=(s.e i).tot
 or:(s.e j).tot=(s0.e j).tot\/(s.e j).sh.has=true/\n*(CH.A m (s0.e i).sh+(s0.e i).tot*65536) - m*((s0.e j).tot*65536) - m*n*(g+1)<=m*CH.A n (s.e j).sh
theorem Zs.eq {n W Z:Int} {c:CH} (h:Zs n W Z c):Z=CH.A n c+W:=by obtain⟨X,Y,e,_,_,e2⟩:=h.r;unfold CH.A CH.X CH.Y;rw[e];exact e2
section
variable {s0 s t:SS} {P i j m n g k:Int} {xs:List Int} {p:PK} {r:List PK} {now:Int} {x:Bool} {a b:CD}
theorem kJ.refl (h:i ∈ s.A.K P):kJ s P i j m n g s:=⟨h,rfl,ZJ _,.inl rfl⟩
theorem wI {zi z0 zj ti tj T:Int} (hm:1<=m)(hn:1<=n)(h0:z0<=zi)(h1:zi<=m*ti)(h2:n*tj<zj+n)(h3:ti<=tj+g):n*z0 - m*n*(g+1)<=m*zj:=by
 have a1:n*z0<=n*zi:=ZU h0 ρa;have a2:n*zi<=n*(m*ti):=ZU h1 ρa;have a3:m*(n*tj)<=m*(zj+n):=ZU ρa ρa;have a4:m*n*ti<=m*n*(tj+g):=ZU h3 (Int.mul_nonneg ρa ρa);have e1:n*(m*ti)=m*n*ti:=by rw[<- Int.mul_assoc,Int.mul_comm n m]
 have e2:m*(n*tj)=m*n*tj:=κe;rw[Int.mul_add] at a3 a4 ⊢;omega
theorem kJ.take (H:kJ s0 P i j m n g s)(J:s.J P g)(I:s.Inv)(N:s.Num)(C:nJ s.L P g s.Lm)(T:kT s t now k x xs p r)(S:tI s t xs p.len P)(ha:fc s.L i=some a)(Km:a.par=P)(ham:a.l2=m)(hb:fc s.L j=some b)(Tp:b.par=P)(XP:b.l2=n)(hp:0<=p.len)(hl:∀y ∈ xs,∀d,fc s.L y=some d->d.par=P->y ∈ s.A.K P/\∀b ∈ s.A.K P,(s.e y).sh.t<=(s.e b).sh.t)(N3:i ∈ t.A.K P):kJ s0 P i j m n g t:=by
 have hK:t.A.K P≠[]:=λe=>by rw[e] at N3;cases N3
 have ki:=S.keep hK i a ha Km;have kj:=S.keep hK j b hb Tp;have hti:(s.e i).tot<=(t.e i).tot:=by rw[T.tot i];split<;>omega
 refine⟨N3,?_,Int.le_trans H.tot hti,?_⟩
 ·rw[ki];split
  ·rw[(ix _ _).2];exact H.run
  ·exact H.run
 ·have hr:(t.e j).sh.r=(s.e j).sh.r/\(t.e j).sh.has=(s.e j).sh.has:=by
   rw[kj];split
   ·exact⟨(ix _ _).2,(ix _ _).1⟩
   ·exact⟨rfl,rfl⟩
  have hA:CH.A n (t.e j).sh=CH.A n (s.e j).sh:=by unfold CH.A CH.X CH.Y;rw[hr.1]
  rw[hA,hr.2];by_cases hj:j ∈ xs
  ·right;obtain⟨hjk,hjl⟩:=hl j hj b hb Tp;have hhj:=J.ac j hjk;refine⟨hhj,?_⟩;rcases H.or with h|⟨_,h⟩
   ·obtain⟨⟨hsi,Zi,zi⟩,_⟩:=J.zs i a ha Km (J.ac i H.act);obtain⟨⟨hsj,Zj,zj⟩,_⟩:=J.zs j b hb Tp hhj;have sp:=(J.sp i a ha Km (J.ac i H.act) j hjk).1;have li:=(C.lin a (cG ha).1 Km hsi).2.1;have lj:=(C.lin b (cG hb).1 Tp hsj).2.1;rw[ham] at zi li;rw[XP] at zj lj;have ei:=zi.eq;have ej:=zj.eq;have hAi:CH.A m (s.e i).sh=CH.A m (s0.e i).sh:=by unfold CH.A CH.X CH.Y;rw[H.run]
    have Ob:CH.A m (s0.e i).sh+(s0.e i).tot*65536<=Zi:=by rw[ei,hAi];have:=H.tot;omega
    have key:=wI (T:=0) li.1 lj.1 Ob zi.lo zj.hi sp;have e3:m*(CH.A n (s.e j).sh+(s0.e j).tot*65536)=m*CH.A n (s.e j).sh+m*((s0.e j).tot*65536):=Int.mul_add _ _ _;rw[ej,h,e3] at key;omega
   ·exact h
  ·rcases H.or with h|h
   ·left;rw[T.tot j,ZI hj];exact h
   ·exact .inr h
theorem kJ.put (H:kJ s0 P i j m n g s)(J:s.J P g)(I:s.Inv)(N:s.Num)(C:nJ s.L P g s.Lm) {c:CD} (F:gN s t now k xs p c)(S:yQ s t P)(It:t.Inv)(ha:fc s.L i=some a)(Km:a.par=P)(hb:fc s.L j=some b)(Tp:b.par=P)(XP:b.l2=n)(hm:0<=m):kJ s0 P i j m n g t:=by
 subst XP;refine⟨S.sub i H.act,by rw[S.old i a ha Km (.inl H.act)];exact H.run,by rw[F.tot i];exact H.tot,?_⟩;rcases H.or with h|⟨hh,h⟩
 ·left;rw[F.tot j];exact h
 ·right;by_cases h1:j ∈ s.A.K P\/j ∉ t.A.K P
  ·rw[S.old j b hb Tp h1];exact⟨hh,h⟩
  ·have h2:j ∉ s.A.K P:=λg=>h1 (.inl g);have h3:j ∈ t.A.K P:=vW λg=>h1 (.inr g);obtain⟨d,g1,g2,g3,_⟩:=(It.kk P j).1 h3;rw[F.L,hb] at g1;cases g1;rw[S.new j b hb Tp h2 h3];obtain⟨⟨Z,hz,NE⟩,_⟩:=J.woke I N C hb Tp g3;obtain⟨⟨_,Z0,Ob⟩,_⟩:=J.zs j b hb Tp hh;have h4:=NE Z0 Ob;rw[Ob.eq,hz.eq] at h4;refine⟨hz.has,Int.le_trans h ?_⟩;refine ZU ?_ hm;omega
theorem kJ.most (H:kJ s0 P i j m n g s)(J:s.J P g)(C:nJ s.L P g s.Lm)(ha:fc s.L i=some a)(Km:a.par=P)(ham:a.l2=m)(hb:fc s.L j=some b)(Tp:b.par=P)(XP:b.l2=n)(hn:1<=n):(((s.e j).tot - (s0.e j).tot)*m - ((s.e i).tot - (s0.e i).tot)*n)*65536<=m*n*(2*g+2):=by
 obtain⟨⟨hsi,Zi,zi⟩,_⟩:=J.zs i a ha Km (J.ac i H.act);have li:=(C.lin a (cG ha).1 Km hsi).2.1;rw[ham] at zi li;have hg:=C.gn;have Mz:0<=m*n:=Int.mul_nonneg ρa ρa;rcases H.or with h|⟨hh,h⟩
 ·have h1:(s.e j).tot - (s0.e j).tot=0:=by omega
  have h2:0<=((s.e i).tot - (s0.e i).tot)*n:=Int.mul_nonneg (by have:=H.tot;omega) ρa;have h3:0<=m*n*(2*g+2):=Int.mul_nonneg Mz ρa;rw[h1,Int.zero_mul];omega
 ·obtain⟨⟨hsj,Zj,zj⟩,_⟩:=J.zs j b hb Tp hh;rw[XP] at zj;have sp:=(J.sp j b hb Tp hh i H.act).1;have ei:=zi.eq;have ej:=zj.eq;have hAi:CH.A m (s.e i).sh=CH.A m (s0.e i).sh:=by unfold CH.A CH.X CH.Y;rw[H.run]
  -- m Zj <=m n tj <=m n (ti+g) and m n ti<n (Zi+m)
  have b1:m*Zj<=m*(n*(s.e j).sh.t):=ZU zj.lo ρa;have b2:m*n*(s.e j).sh.t<=m*n*((s.e i).sh.t+g):=ZU sp Mz;have b3:n*(m*(s.e i).sh.t)<=n*(Zi+m):=ZU (by have:=zi.hi;omega) ρa;have e1:m*(n*(s.e j).sh.t)=m*n*(s.e j).sh.t:=κe;have e2:n*(m*(s.e i).sh.t)=m*n*(s.e i).sh.t:=by rw[<- Int.mul_assoc,Int.mul_comm n m]
  have e3:n*m=m*n:=Int.mul_comm n m;have e4:m*n*(2*g+2)=2*(m*n*g)+2*(m*n):=by rw[Int.mul_add,Int.mul_left_comm,Int.mul_comm (m*n) 2]
  obtain⟨u,hu⟩:=Nq ((s.e j).tot);obtain⟨u0,Yj⟩:=Nq ((s0.e j).tot);obtain⟨v,hv⟩:=Nq ((s.e i).tot);obtain⟨v0,Yl⟩:=Nq ((s0.e i).tot);rw[Yj,Yl] at h;rw[hu] at ej;rw[hv,hAi] at ei;rw[hu,Yj,hv,Yl];rw[ej] at b1;rw[ei] at b3;obtain⟨A,hA⟩:=Nq (CH.A m (s0.e i).sh);obtain⟨B,hB⟩:=Nq (CH.A n (s.e j).sh);rw[hA] at h b3;rw[hB] at h b1;have f1:(u - u0)*m=m*u - m*u0:=by rw[Int.sub_mul,Int.mul_comm u,Int.mul_comm u0]
  have f2:(v - v0)*n=n*v - n*v0:=by rw[Int.sub_mul,Int.mul_comm v,Int.mul_comm v0]
  have f3:m*(u*65536)=m*u*65536:=κe;have f4:m*(u0*65536)=m*u0*65536:=κe;have f5:n*(v*65536)=n*v*65536:=κe;have f6:n*(v0*65536)=n*v0*65536:=κe;rw[f1,f2,e4];simp only[Int.mul_add,Int.mul_one] at h b1 b2 b3;rw[e1] at b1;rw[e2] at b3;omega
end
end Go.Proofs.YtfdlemkplejdnaaGreat
