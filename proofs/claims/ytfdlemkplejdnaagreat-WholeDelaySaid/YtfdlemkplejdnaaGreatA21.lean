/- WholeDelay, part 21. Conditions: none. -/
import Derived.Test.YtfdlemkplejdnaaGreatA13
import Derived.Test.YtfdlemkplejdnaaGreatA15
import Derived.Test.YtfdlemkplejdnaaGreatA16
import Derived.Test.YtfdlemkplejdnaaGreatA17
namespace Go.Proofs.YtfdlemkplejdnaaGreat
open Go.RowKit Go.Sort
open Value renaming int->ι,pointer->ψ,slice->ζ,tuple->χ,agg->φ,map->μ,bool->β
open IntKind renaming u64->υ,i64->ε,u16->ω
open Ending renaming returned->ϰ
open Go.Proofs.Tryz renaming prog->Ψ,underlying3->Θ,underlying147->Δ,underlying152->Γ,underlying202->Φ,underlying39->Ξ,underlying207->Ω
open Go renaming World->ϖ,Value->ϗ
set_option linter.unusedVariables false
set_option linter.unusedSimpArgs false
set_option maxHeartbeats 8000000
set_option maxRecDepth 100000
def GV:LF:=⟨false,⟨⟨0,0,0⟩,⟨0,0,0⟩,false⟩,⟨⟨0,0,0⟩,⟨0,0,0⟩,false⟩,0,0,0⟩
structure EN where
 (c:CD)
 (tot:Int)
 (du:LF)
 (sh cp:CH)
 (q:List PK)
def dW (c:CD):EN:=⟨c,0,GV,CH.zero,CH.zero,[]⟩
structure SS where
 (T Lm:Int)
 (L:List CD)
 (e:Int->EN)
 (A:AS)
 (lv:TM)
 (kd:Int->TM)
 (clk acc:Int)
def mQ:TM:=λ_=>none
open Classical in
noncomputable def fitT (m:TM):Int:=if h:∃v,io m Mc v then h.choose else Mc
open Classical in
noncomputable def kf (m:TM):Int:=if h:∃v,iZ m v true then h.choose else 0
theorem ti {m:TM} {d v u:Int} (h:io m d v)(k:io m d u):v=u:=ξ3
theorem uy {m:TM} {v:Int} (h:io m Mc v):fitT m=v:=by unfold fitT;rw[dif_pos ⟨v,h⟩];exact ti (Classical.choose_spec (⟨v,h⟩:∃v,io m Mc v)) h
theorem Be {m:TM} {v:Int} {ok:Bool} (h:iZ m v ok):kf m=v:=by
 cases ok with
 | false=>obtain⟨h1,h2⟩:=h;unfold kf;rw[dif_neg (λ⟨u,⟨j,q,hq,_⟩,_⟩=>by rw[h2 j] at hq;cases hq)];exact h1.symm
 | true=>
  unfold kf;rw[dif_pos ⟨v,h⟩];have one:∀u,iZ m u true->u=v:=by rintro u ⟨⟨j',q',SF,k1⟩,k2⟩;obtain⟨⟨j,q,hq,h1⟩,h2⟩:=h;have:=h2 j' q' SF;have:=k2 j q hq;omega
  exact one _ (Classical.choose_spec (⟨v,h⟩:∃v,iZ m v true))
namespace SS
def real (c:CD):Bool:=de (Go.Proofs.YtfdlemkplejdnaaGreat.kd c.r0 c.r1 c.r2)
noncomputable def fit (s:SS) (i:Int):Int:=if (s.e i).c.lf=true\/s.A.is i=false then (s.e i).cp.t else max (s.e i).cp.t (fitT (s.kd i))
noncomputable def settle1 (s:SS) (i:Int):SS:=if s.A.is i=true then {s with kd:=ax s.kd (s.e i).c.par (aO (s.kd (s.e i).c.par) i (some ((s.e i).sh.t,s.fit i)))} else s
noncomputable def settle (s:SS) (xs:List Int):SS:=xs.foldl settle1 s
def setE (s:SS)(i:Int)(x:EN):SS:={s with e:=ax s.e i x}
noncomputable def wake1 (now:Int) (s:SS) (i:Int):SS:=
 s.setE i {s.e i with sh:=(s.e i).sh.wake (s.e i).c.l0 (s.e i).c.l1 (s.e i).c.l2 (kf (s.kd (s.e i).c.par)) (s.e i).tot,cp:=(s.e i).cp.capped (s.e i).c.u0 (s.e i).c.u1 (s.e i).c.u2 now (s.e i).tot}
def duesTo (s:SS)(i:Int)(l:LF):SS:={s.setE i {s.e i with du:=l} with lv:=aO s.lv i (some (l.e,l.t))}
noncomputable def wakeS (s:SS) (now:Int) (i:Int) (up:List Int):SS:=
 settle ((bp s.A.K up).1.foldl (wake1 now) {s with A:=⟨ax s.A.on i true,(bp s.A.K up).2⟩}) up
noncomputable def wake (s:SS) (now:Int) (i h:Int) (up:List Int):SS:=
 let s1:=if real (s.e i).c then s.duesTo i (((s.e i).du.woke (s.e i).c.r0 (s.e i).c.r1 (s.e i).c.r2 now).headed h) else s
 if eV (s.e i).c then s1.wakeS now i up else s1
def told (s:SS)(now:Int):Bool:=decide (s.clk<=now) && decide (now<=4611686018427387904)
noncomputable def put (s:SS) (now i:Int) (p:PK) (up:List Int):Int × SS:=
 if s.told now=false then (27,s) else
 let s:={s with clk:=now}
 match fc s.L i with
 | none=>(23,s)
 | some c=>
  if c.lf=false then (29,s) else
  if p.len<1\/s.Lm<p.len then (26,s) else
  if 1099511627776<s.acc+p.len then (28,s) else
  if c.by_ - aA (s.e i).q<p.len\/(s.e i).q.length=c.pk.toNat then (30,s) else
  let s1:={s.setE i {s.e i with q:=(s.e i).q++[p]} with acc:=s.acc+p.len}
  if (s.e i).q=[] then (0,s1.wake now i p.len up) else (0,s1)
inductive Chain (s:SS) (now:Int):Int->Option Int->Prop
 | none {i:Int}:m8 (s.kd i) (min now Mb) 0 false->Chain s now i none
 | leaf {i j:Int}:m8 (s.kd i) (min now Mb) j true->(s.e j).c.lf=true->Chain s now i (some j)
 | inner {i j:Int} {r:Option Int}:m8 (s.kd i) (min now Mb) j true->(s.e j).c.lf=false->Chain s now j r->Chain s now i r
def Choose (s:SS)(now:Int)(r:Option (Int × Bool)):Prop:=
 (∃i,un s.lv (min now Mb) i true/\r=some (i,true))\/un s.lv (min now Mb) 0 false/\((∃i,Chain s now 0 (some i)/\r=some (i,false))\/(Chain s now 0 none/\r=none))
def take1 (len:Int)(s:SS)(i:Int):SS:=
 s.setE i {s.e i with tot:=(s.e i).tot+len,sh:=(s.e i).sh.took ((s.e i).tot+len),cp:=(s.e i).cp.fit ((s.e i).tot+len)}
def due (s:SS)(i len:Int)(byReal:Bool):SS:=
 if real (s.e i).c then
  let l:=if byReal then (s.e i).du.took len (av (s.e i).q) else (s.e i).du.headed (av (s.e i).q)
  let s1:=s.duesTo i l
  if (s.e i).q=[] then {s1 with lv:=aO s1.lv i none} else s1
 else s
open Classical in
noncomputable def sleep1 (s:SS) (i:Int):SS:=
 let p:=(s.e i).c.par
 {s with kd:=ax s.kd p (aO (s.kd p) i none),e:=if ∀j,aO (s.kd p) i none j=none then (λj=>if (fc s.L j).isSome=true/\(s.e j).c.par=p then {s.e j with sh:=CH.zero} else s.e j) else s.e}
noncomputable def sleep (s:SS) (i:Int) (up:List Int):SS:=if eV (s.e i).c=true/\s.A.is i=true then (aT s.A.K up).1.foldl sleep1 {s with A:=⟨ax s.A.on i false,(aT s.A.K up).2⟩} else s
noncomputable def take (s:SS) (now i:Int) (byReal:Bool) (up:List Int):SS:=
 let s0:={s with clk:=now}
 let len:=av (s.e i).q
 let s1:=up.foldl (take1 len) (s0.setE i {s.e i with q:=(s.e i).q.tail})
 let s2:=s1.due i len byReal
 let s3:=if (s2.e i).q=[] then s2.sleep i up else s2
 s3.settle up
end SS
abbrev oy (x:EN)(qv:ϗ):Array ϗ:=#[qv,ι ε x.c.id,ι ε x.c.par,β x.c.lf,ι υ x.c.r0,ι υ x.c.r1,ι υ x.c.r2,ι υ x.c.l0,ι υ x.c.l1,ι υ x.c.l2,ι υ x.c.u0,ι υ x.c.u1,ι υ x.c.u2,ι ε x.c.pk,ι ε x.c.by_,ι υ x.tot,β x.du.has,ι υ x.du.D.f.X,ι υ (hi (x.du.D.f.Y)),ι υ (lo (x.du.D.f.Y)),ι υ x.du.D.f.M,ι υ x.du.D.t.X,ι υ (hi (x.du.D.t.Y)),ι υ (lo (x.du.D.t.Y)),ι υ x.du.D.t.M,β x.du.D.b,ι υ x.du.E.f.X,ι υ (hi (x.du.E.f.Y)),ι υ (lo (x.du.E.f.Y)),ι υ x.du.E.f.M,ι υ x.du.E.t.X,ι υ (hi (x.du.E.t.Y)),ι υ (lo (x.du.E.t.Y)),ι υ x.du.E.t.M,β x.du.E.b,ι υ x.du.p,ι υ x.du.e,ι υ x.du.t,β x.sh.has,ι υ x.sh.r.f.X,ι υ (hi (x.sh.r.f.Y)),ι υ (lo (x.sh.r.f.Y)),ι υ x.sh.r.f.M,ι υ x.sh.r.t.X,ι υ (hi (x.sh.r.t.Y)),ι υ (lo (x.sh.r.t.Y)),ι υ x.sh.r.t.M,β x.sh.r.b,ι υ x.sh.t,β x.cp.has,ι υ x.cp.r.f.X,ι υ (hi (x.cp.r.f.Y)),ι υ (lo (x.cp.r.f.Y)),ι υ x.cp.r.f.M,ι υ x.cp.r.t.X,ι υ (hi (x.cp.r.t.Y)),ι υ (lo (x.cp.r.t.Y)),ι υ x.cp.r.t.M,β x.cp.r.b,ι υ x.cp.t]
def EN.ok (x:EN):Prop:=x.du.ok/\(0<=x.du.e/\x.du.e<=Ma)/\(0<=x.du.t/\x.du.t<=Ma)/\x.sh.ok/\(0<=x.sh.t/\x.sh.t<=Ma)/\x.cp.ok/\(0<=x.cp.t/\x.cp.t<=Ma)/\(0<=x.tot/\x.tot<=2199023255552)
def dT (o:aV)(w:ϖ)(i:Int)(x:EN)(qv:ϗ):Prop:=if x.c.lf=true then ∃Q fp,qv=ψ (some ⟨Q,0,none⟩)/\aY w Q x.c.by_ x.c.pk.toNat x.q fp/\∀k,fp k->o k=.qu i else qv=Kp
def gZ (o:aV)(w:ϖ)(i:Int)(b:Nat)(qv:ϗ)(x:EN):Prop:=ah w b (oy x qv) 244/\o b=.en i/\dT o w i x qv/\x.ok
theorem dT.ko {o:aV} {w v:ϖ} {i:Int} {x:EN} {qv:ϗ} {F:Nat->Prop} (h:dT o w i x qv)(k:KO F w v)(hF:∀b,o b=.qu i->¬F b):dT o v i x qv:=by
 unfold dT at h ⊢;split
 ·rename_i hl;rw[ZP hl] at h;obtain⟨Q,fp,h1,h2,h3⟩:=h;exact⟨Q,fp,h1,h2.ko k (λb hb=>hF b (h3 b hb)),h3⟩
 ·rename_i hl;rw[ZI hl] at h;exact h
theorem dT.below {o:aV} {w v:ϖ} {i:Int} {x:EN} {qv:ϗ} (h:dT o w i x qv)(k:Below w w v):dT o v i x qv:=h.ko (KO.of_below (F:=λ_=>False) k) (λ_ _ f=>f)
instance {o w i x qv}:Mv (dT o w i x qv) w (λv'=>dT o v' i x qv):=⟨λk h=>dT.below h k⟩
theorem dT.own {o o':aV} {w:ϖ} {i:Int} {x:EN} {qv:ϗ} (h:dT o w i x qv)(e:∀b,b<w.heap.size->o' b=o b):dT o' w i x qv:=by
 unfold dT at h ⊢;split
 ·rename_i hl;rw[ZP hl] at h;obtain⟨Q,fp,h1,h2,h3⟩:=h;refine⟨Q,fp,h1,h2,λb hb=>(e b ?_).trans (h3 b hb)⟩;obtain⟨R,S,f,ps,k0,k1,k2,k3,k4,k5,_,_,_,_,_,_,_,_,h9⟩:=h2;exact h9 b hb
 ·rename_i hl;rw[ZI hl] at h;exact h
theorem gZ.ko {o:aV} {w v:ϖ} {i:Int} {b:Nat} {qv:ϗ} {x:EN} {F:Nat->Prop} (h:gZ o w i b qv x)(k:KO F w v)(hF:∀b,o b=.en i\/o b=.qu i->¬F b):gZ o v i b qv x:=⟨h.1.ko k (hF b (.inl h.2.1)),h.2.1,h.2.2.1.ko k (λb hb=>hF b (.inr hb)),h.2.2.2⟩
theorem gZ.own {o o':aV} {w:ϖ} {i:Int} {b:Nat} {qv:ϗ} {x:EN} (h:gZ o w i b qv x)(e:∀b,b<w.heap.size->o' b=o b):gZ o' w i b qv x:=⟨h.1,(e b h.1.size).trans h.2.1,h.2.2.1.own e,h.2.2.2⟩
def bo (J:Int->Prop)(o:aV)(w:ϖ)(L:List CD)(e:Int->EN)(LB:List (Int × ϗ)):Prop:=∃(P:Int->Nat)(V:Int->ϗ),∀i,match fc L i with
 | none=>lk i LB=none
 | some c=>lk i LB=some (ψ (some ⟨P i,0,none⟩))/\(e i).c=c/\(¬J i->gZ o w i (P i) (V i) (e i))
abbrev bN (o:aV)(w:ϖ)(L:List CD)(e:Int->EN)(LB:List (Int × ϗ)):Prop:=bo (λ_=>False) o w L e LB
section
variable {J:Int->Prop} {o o':aV} {w v:ϖ} {L:List CD} {e:Int->EN} {LB:List (Int × ϗ)} {F:Nat->Prop} {i:Int} {c:CD}
theorem bo.ko (h:bo J o w L e LB)(k:KO F w v)(hF:∀b i,¬J i->(o b=.en i\/o b=.qu i)->¬F b):bo J o v L e LB:=by
 obtain⟨P,V,h3⟩:=h;refine⟨P,V,λi=>?_⟩;have:=h3 i;split<;>rename_i hc<;>rw[hc] at this
 ·exact this
 ·exact⟨this.1,this.2.1,λhJ=>(this.2.2 hJ).ko k (λb hb=>hF b i hJ hb)⟩
theorem bo.below (h:bo J o w L e LB)(k:Below w w v):bo J o v L e LB:=h.ko (KO.of_below (F:=λ_=>False) k) (λ_ _ _ _ f=>f)
instance {J o w L e LB}:Mv (bo J o w L e LB) w (λv'=>bo J o v' L e LB):=⟨λk h=>bo.below h k⟩
theorem bo.own (h:bo J o w L e LB)(he:∀b,b<w.heap.size->o' b=o b):bo J o' w L e LB:=by
 obtain⟨P,V,h3⟩:=h;refine⟨P,V,λi=>?_⟩;have:=h3 i;split<;>rename_i hc<;>rw[hc] at this
 ·exact this
 ·exact⟨this.1,this.2.1,λhJ=>(this.2.2 hJ).own he⟩
theorem bo.out (h:bN o w L e LB)(hc:fc L i=some c):∃b qv,lk i LB=some (ψ (some ⟨b,0,none⟩))/\(e i).c=c/\gZ o w i b qv (e i)/\bo (λj=>j=i) o w L e LB:=by
 obtain⟨P,V,h3⟩:=h;have hi:=h3 i;rw[hc] at hi;refine⟨P i,V i,hi.1,hi.2.1,hi.2.2 (λf=>f),P,V,λj=>?_⟩;have:=h3 j;split<;>rename_i hj<;>rw[hj] at this
 ·exact this
 ·exact⟨this.1,this.2.1,λ_=>this.2.2 (λf=>f)⟩
theorem bo.back {b:Nat} {qv:ϗ} {x:EN} (h:bo (λj=>j=i) o w L e LB)(hc:fc L i=some c)(hb:lk i LB=some (ψ b))(hx:x.c=c)(k:gZ o w i b qv x):bN o w L (ax e i x) LB:=by
 obtain⟨P,V,h3⟩:=h;refine⟨λj=>if j=i then b else P j,λj=>if j=i then qv else V j,λj=>?_⟩;have kj:=h3 j;by_cases e1:j=i
 ·subst e1;rw[hc];unfold ax;simp only[ZP];exact⟨hb,hx,λ_=>k⟩
 ·split<;>rename_i hj<;>rw[hj] at kj
  ·exact kj
  ·unfold ax;simp only[ZI e1];exact⟨kj.1,kj.2.1,λ_=>kj.2.2 e1⟩
end
def bR (L:List CD)(p:Int):Bool:=decide (p=0) || match fc L p with
 | some c=>!c.lf
 | none=>false
def cK (J:Int->Prop)(o:aV)(w:ϖ)(L:List CD)(kd:Int->TM)(LB:List (Int × ϗ)):Prop:=∃(P:Int->Nat),∀p,bR L p=true->lk p LB=some (ψ (some ⟨P p,0,none⟩))/\(¬J p->∃fp,aQ 211 w (P p) (kd p) fp/\∀x,fp x->o x=.kd p)
abbrev dC (o:aV)(w:ϖ)(L:List CD)(kd:Int->TM)(LB:List (Int × ϗ)):Prop:=cK (λ_=>False) o w L kd LB
theorem aQ.lt {ty:TypeId} {w:ϖ} {B:Nat} {m:TM} {fp:Nat->Prop} (h:aQ ty w B m fp) {x:Nat} (hx:fp x):x<w:=by obtain⟨T,M,t,L,h1,h2,h3,h4,h5,h6,h7,h8,h9⟩:=h;exact h9 x hx
section
variable {J:Int->Prop} {o o':aV} {w v:ϖ} {L:List CD} {kd:Int->TM} {LB:List (Int × ϗ)} {F:Nat->Prop} {p:Int}
theorem cK.ko (h:cK J o w L kd LB)(k:KO F w v)(hF:∀b p,¬J p->o b=.kd p->¬F b):cK J o v L kd LB:=by obtain⟨P,h3⟩:=h;refine⟨P,λp hp=>⟨(h3 p hp).1,λhJ=>?_⟩⟩;obtain⟨fp,g1,g2⟩:=(h3 p hp).2 hJ;exact⟨fp,g1.ko k (λx hx=>hF x p hJ (g2 x hx)),g2⟩
theorem cK.below (h:cK J o w L kd LB)(k:Below w w v):cK J o v L kd LB:=h.ko (KO.of_below (F:=λ_=>False) k) (λ_ _ _ _ f=>f)
instance {J o w L kd LB}:Mv (cK J o w L kd LB) w (λv'=>cK J o v' L kd LB):=⟨λk h=>cK.below h k⟩
theorem cK.own (h:cK J o w L kd LB)(he:∀b,b<w.heap.size->o' b=o b):cK J o' w L kd LB:=by obtain⟨P,h3⟩:=h;refine⟨P,λp hp=>⟨(h3 p hp).1,λhJ=>?_⟩⟩;obtain⟨fp,g1,g2⟩:=(h3 p hp).2 hJ;exact⟨fp,g1,λx hx=>(he x (g1.lt hx)).trans (g2 x hx)⟩
theorem cK.out (h:dC o w L kd LB)(hp:bR L p=true):∃b fp,lk p LB=some (ψ (some ⟨b,0,none⟩))/\aQ 211 w b (kd p) fp/\(∀x,fp x->o x=.kd p)/\cK (λj=>j=p) o w L kd LB:=by obtain⟨P,h3⟩:=h;obtain⟨g1,g2⟩:=h3 p hp;obtain⟨fp,g3,g4⟩:=g2 (λf=>f);exact⟨P p,fp,g1,g3,g4,P,λq hq=>⟨(h3 q hq).1,λ_=>(h3 q hq).2 (λf=>f)⟩⟩
theorem cK.back {b:Nat} {m:TM} {fp:Nat->Prop} (h:cK (λj=>j=p) o w L kd LB)(hb:lk p LB=some (ψ b))(t:aQ 211 w b m fp)(hf:∀x,fp x->o x=.kd p):dC o w L (ax kd p m) LB:=by
 obtain⟨P,h3⟩:=h;refine⟨λj=>if j=p then b else P j,λq hq=>?_⟩;by_cases e1:q=p
 ·subst e1;unfold ax;simp only[ZP];exact⟨hb,λ_=>⟨fp,t,hf⟩⟩
 ·obtain⟨j1,j2⟩:=h3 q hq;unfold ax;simp only[ZI e1];exact⟨j1,λ_=>j2 e1⟩
end
def ew (o:aV)(w:ϖ)(LV:Nat)(m:TM):Prop:=∃fp,aQ 209 w LV m fp/\∀x,fp x->o x=.lv
theorem ew.ko {o:aV} {w v:ϖ} {LV:Nat} {m:TM} {F:Nat->Prop} (h:ew o w LV m)(k:KO F w v)(hF:∀b,o b=.lv->¬F b):ew o v LV m:=by obtain⟨fp,h1,h2⟩:=h;exact⟨fp,h1.ko k (λx hx=>hF x (h2 x hx)),h2⟩
theorem ew.below {o:aV} {w v:ϖ} {LV:Nat} {m:TM} (h:ew o w LV m)(k:Below w w v):ew o v LV m:=h.ko (KO.of_below (F:=λ_=>False) k) (λ_ _ f=>f)
instance {o w LV m}:Mv (ew o w LV m) w (λv'=>ew o v' LV m):=⟨λk h=>ew.below h k⟩
theorem ew.own {o o':aV} {w:ϖ} {LV:Nat} {m:TM} (h:ew o w LV m)(e:∀b,b<w.heap.size->o' b=o b):ew o' w LV m:=by obtain⟨fp,h1,h2⟩:=h;exact⟨fp,h1,λx hx=>(e x (h1.lt hx)).trans (h2 x hx)⟩
theorem ew.to {o:aV} {w w':ϖ} {LV:Nat} {m m':TM} {fp:Nat->Prop} (h1:∀x,fp x->o x=.lv)(h:eZ 209 w w' LV m' fp):ew (λx=>if x<w.heap.size then o x else .lv) w' LV m':=by
 obtain⟨NF,h2,h3,h4⟩:=h;refine⟨NF,h2,λx hx=>?_⟩;simp only[];split
 ·rename_i JM;rcases h3 x hx with g|g
  ·exact h1 x g
  ·omega
 ·rfl
structure Ad where
 (S T M BY ON A O C LV KM:Nat)
 (LB LM:List (Int × ϗ))
def ar (o:aV)(w:ϖ)(a:Ad)(s:SS):Prop:=ah w a.S #[ι ε s.T,ι ε s.Lm,a.T,.map (some a.BY),a.ON,a.LV,.map (some a.KM),s.clk,s.acc] 155/\
 aF w a.T a.M s.L/\aB w a.BY a.LB/\bN o w s.L s.e a.LB/\cJ o w a.ON a.A a.O a.C s.L s.A/\ew o w a.LV s.lv/\aB w a.KM a.LM/\dC o w s.L s.kd a.LM/\o a.S=.sy/\o a.T=.tr/\o a.M=.tr/\o a.BY=.by_/\o a.KM=.km
theorem cJ.ko {o:aV} {w v:ϖ} {B A O C:Nat} {L:List CD} {S:AS} {F:Nat->Prop} (h:cJ o w B A O C L S)(k:KO F w v)(hF:∀x,(o x).act\/o x=.ac\/o x=.ab->¬F x):cJ o v B A O C L S:=by obtain⟨B',⟨LB,A',hA⟩,⟨LO,O',hO⟩,⟨LK,C',KF⟩,oB,oA,oO,oC⟩:=h;exact⟨B'.ko k (hF _ (.inr (.inl oB))),⟨LB,A'.ko k (hF _ (.inr (.inr oA))),hA⟩,⟨LO,O'.ko k (hF _ (.inl (by rw[oO];trivial))),hO⟩,⟨LK,C'.ko k (hF _ (.inl (by rw[oC];trivial))),KF.ko k (λx l p _ e=>hF x (.inl (by rw[e];trivial)))⟩,oB,oA,oO,oC⟩
theorem cJ.below {o:aV} {w v:ϖ} {B A O C:Nat} {L:List CD} {S:AS} (h:cJ o w B A O C L S)(k:Below w w v):cJ o v B A O C L S:=h.ko (KO.of_below (F:=λ_=>False) k) (λ_ _ f=>f)
instance {o w B A O C L S}:Mv (cJ o w B A O C L S) w (λv'=>cJ o v' B A O C L S):=⟨λk h=>cJ.below h k⟩
theorem cJ.own {o o':aV} {w:ϖ} {B A O C:Nat} {L:List CD} {S:AS} (h:cJ o w B A O C L S)(e:∀x,x<w.heap.size->o' x=o x):cJ o' w B A O C L S:=by obtain⟨B',⟨LB,A',hA⟩,⟨LO,O',hO⟩,⟨LK,C',KF⟩,oB,oA,oO,oC⟩:=h;exact⟨B',⟨LB,A',hA⟩,⟨LO,O',hO⟩,⟨LK,C',KF.own e⟩,(e _ B'.size).trans oB,(e _ A'.size).trans oA,(e _ O'.size).trans oO,(e _ C'.size).trans oC⟩
def aj (w:ϖ)(b:Nat)(qv:ϗ)(x:EN):Prop:=ah w b (oy x qv) 244
theorem aj.below {w v:ϖ} {b:Nat} {qv:ϗ} {x:EN} (h:aj w b qv x)(k:Below w w v):aj v b qv x:=ah.below h k (ah.size h)
instance {w b qv x}:Mv (aj w b qv x) w (λv'=>aj v' b qv x):=⟨λk h=>aj.below h k⟩
theorem aj.ko {w v:ϖ} {b:Nat} {qv:ϗ} {x:EN} {F:Nat->Prop} (h:aj w b qv x)(k:KO F w v)(hF:¬F b):aj v b qv x:=ah.ko h k hF
theorem aj.c0 {w:ϖ} {b:Nat} {qv:ϗ} {x:EN} (h:aj w b qv x):w.cell? ⟨b,0,none⟩=some qv:=ah.cell h 0
theorem aj.c1 {w:ϖ} {b:Nat} {qv:ϗ} {x:EN} (h:aj w b qv x):w.cell? ⟨b,1,none⟩=some (ι ε x.c.id):=ah.cell h 1
theorem aj.c2 {w:ϖ} {b:Nat} {qv:ϗ} {x:EN} (h:aj w b qv x):w.cell? ⟨b,2,none⟩=some (ι ε x.c.par):=ah.cell h 2
theorem aj.c3 {w:ϖ} {b:Nat} {qv:ϗ} {x:EN} (h:aj w b qv x):w.cell? ⟨b,3,none⟩=some (β x.c.lf):=ah.cell h 3
theorem aj.c15 {w:ϖ} {b:Nat} {qv:ϗ} {x:EN} (h:aj w b qv x):w.cell? ⟨b,15,none⟩=some (ι υ x.tot):=ah.cell h 15
theorem aj.c36 {w:ϖ} {b:Nat} {qv:ϗ} {x:EN} (h:aj w b qv x):w.cell? ⟨b,36,none⟩=some (ι υ x.du.e):=ah.cell h 36
theorem aj.c37 {w:ϖ} {b:Nat} {qv:ϗ} {x:EN} (h:aj w b qv x):w.cell? ⟨b,37,none⟩=some (ι υ x.du.t):=ah.cell h 37
theorem aj.c48 {w:ϖ} {b:Nat} {qv:ϗ} {x:EN} (h:aj w b qv x):w.cell? ⟨b,48,none⟩=some (ι υ x.sh.t):=ah.cell h 48
theorem aj.c59 {w:ϖ} {b:Nat} {qv:ϗ} {x:EN} (h:aj w b qv x):w.cell? ⟨b,59,none⟩=some (ι υ x.cp.t):=ah.cell h 59
theorem CK (B:Nat)(m:TM)(fp:Nat->Prop)(w:ϖ)(H:aQ 211 w B m fp)(v:Int)(hv:fitT m=v):
  CB 172 #[B] w v:=by
 refine(Iy B m fp w H).mono ?_;rintro e w' ⟨u,rfl,hu,hb⟩;exact⟨by rw[<- hv,uy hu],hb⟩
theorem iR {b b':Nat} (h:some (Value.pointer b)=some (Value.pointer b')):b=b':=by simpa using h
theorem De (S:AS)(B A O C:Nat)(o:aV)(L:List CD)(id:Int)(z:Bool)(w:ϖ)(H:cJ o w B A O C L S)(hz:S.is id=z):Calls Ψ 124 #[B,ι ε id] w λe w'=>e=ϰ (β z)/\w=w':=by
 rw[<- hz];exact xl S B A O C o L id w H
theorem Fr (o:aV)(a:Ad)(s:SS)(i:Int)(b:Nat)(w:ϖ)(H:ar o w a s)(hc:∃c,fc s.L i=some c)(hb:lk i a.LB=some (ψ b)):
  CB 214 #[a.S,b] w (s.fit i):=by
 obtain⟨c,hc⟩:=hc;obtain⟨S',T',MJ,E',A',V',Mj,D',oS,oT,oM,Ty,TB⟩:=H;obtain⟨b2,qv,JR,Kc,X0,-⟩:=E'.out hc;have eb:=iR (hb.symm.trans JR);subst eb;have X':aj w b qv (s.e i):=X0.1;obtain⟨lf,Lb⟩:=Nq ((s.e i).c.lf);obtain⟨z,hz⟩:=Nq (s.A.is i);obtain⟨v,hv⟩:=Nq (s.fit i);obtain⟨g,hg⟩:=Nq ((s.e i).cp.t);have Nn:c.id=i:=(aL hc).2;rw[hv];unfold SS.fit at hv;rw[Lb,hz,hg] at hv;change Hid _ at hv Kc Nn Lb hg;have Ra:=ag hz;clear hz;rcases lf with _|_
 rotate_left
 ·exact ξf
 rcases z with _|_
 ·exact ξf
 have Np:bR s.L i=true:=by unfold bR;rw[hc];have:=Lb.out;rw[Kc.out] at this;simp[this]
 obtain⟨t,fp,ht,D0,-,-⟩:=D'.out Np;obtain⟨f,hf⟩:=Nq (fitT (s.kd i));have hr:max g f=v:=by have:=hv.out;simpa [hf] using this
 change Hid _ at hf hr ht;have Rr:=S'.r;have Kw:=((am Γ Θ Mj i (z:=Kp) ρm).2.trans ρT);have JU:=((aj.c1 X').trans σl);have J0:=((aj.c3 X').trans σT);have Lt:=((aj.c59 X').trans σ2);unfold CB;go_in;go_wp2_with fail;refine bK (θ6 (Ks (λ_=>False) w) S' A' X' Mj D0) ?_;clear Rr;rintro v1 ⟨I',KC,Pj,KW,Ls,D01⟩ Rr;replace Kw:=((am Γ Θ Ls i (z:=Kp) ρm).2.trans ρT);replace JU:=((aj.c1 KW).trans σl);replace J0:=((aj.c3 KW).trans σT);replace Lt:=((aj.c59 KW).trans σ2);have q:=ae KC;have J8:=λd os=>((aj.c1 (KW.below (ZW _ d os))).trans σl);have Kq:=λd os=>((aj.c3 (KW.below (ZW _ d os))).trans σT);have ND:=λd os=>((aj.c59 (KW.below (ZW _ d os))).trans σ2);have Lp:=λd os=>((am Γ Θ (Ls.grow d os) i (z:=Kp) ρm).2.trans ρT);refine Wq ?_
 repeat (go_big_quiet_step ((first
   | (go_at_call 124;(with_reducible exact an (De s.A a.ON a.A a.O a.C o s.L i _ _ (Pj.below (ZW _ _ _)) Ra.out))))))
 refine bB (θ6 KC Pj KW Ls D01 I') ?_;clear Rr;rintro v2 ⟨LJ,PQ,K6,OM,D02,JE⟩ Rr;replace Kw:=((am Γ Θ OM i (z:=Kp) ρm).2.trans ρT);replace JU:=((aj.c1 K6).trans σl);replace J0:=((aj.c3 K6).trans σT);replace Lt:=((aj.c59 K6).trans σ2);clear q J8 Kq ND Lp KC Pj KW Ls D01;go_wp2_with fail;refine bK (θ6 JE LJ PQ K6 OM D02) ?_;clear Rr;rintro v3 ⟨JI,LP,Rg,K7,NO,D03⟩ Rr;replace Kw:=((am Γ Θ NO i (z:=Kp) ρm).2.trans ρT);replace JU:=((aj.c1 K7).trans σl);replace J0:=((aj.c3 K7).trans σT);replace Lt:=((aj.c59 K7).trans σ2);have q:=ae LP;have J8:=λd os=>((aj.c1 (K7.below (ZW _ d os))).trans σl);have Kq:=λd os=>((aj.c3 (K7.below (ZW _ d os))).trans σT);have ND:=λd os=>((aj.c59 (K7.below (ZW _ d os))).trans σ2);have Lp:=λd os=>((am Γ Θ (NO.grow d os) i (z:=Kp) ρm).2.trans ρT);refine Wq ?_
 repeat (go_big_quiet_step ((first
   | (go_at_call 172;(with_reducible exact bZ (CK t (s.kd i) fp _ (D03.below (ZW _ _ _)) f hf.out)))
   | (go_at_call 257;(with_reducible exact bZ (vQ g f v _ hr.out))))))
 refine bB (θ6 LP Rg K7 NO D03 JI) ?_;clear Rr;rintro v4 ⟨N5,A'4,K8,Ww,D04,JJ⟩ Rr;replace Kw:=((am Γ Θ Ww i (z:=Kp) ρm).2.trans ρT);replace JU:=((aj.c1 K8).trans σl);replace J0:=((aj.c3 K8).trans σT);replace Lt:=((aj.c59 K8).trans σ2);clear q J8 Kq ND Lp LP Rg K7 NO D03;go_wp2;go_ret;exact⟨rfl,(JJ.step0 ρE).toBelow⟩
def TG.mine (t:TG):Prop:=t≠.no
def aV.more (o:aV)(n:Nat)(t:TG):aV:=λx=>if x<n then o x else t
theorem aV.more_lt {o:aV} {n:Nat} {t:TG} {x:Nat} (h:x<n):o.more n t x=o x:=ZP h
theorem aV.more_ge {o:aV} {n:Nat} {t:TG} {x:Nat} (h:n<=x):o.more n t x=t:=ZI ρa
section
variable {o o':aV} {w v:ϖ} {a:Ad} {s:SS}
theorem ar.below (h:ar o w a s)(k:Below w w v):ar o v a s:=by obtain⟨S',T',MJ,E',A',V',Mj,D',r⟩:=h;exact⟨S'.below k S'.size,T'.below k,MJ.below k,E'.below k,A'.below k,V'.below k,Mj.below k,D'.below k,r⟩
instance {o w a s}:Mv (ar o w a s) w (λv'=>ar o v' a s):=⟨λk h=>ar.below h k⟩
theorem ar.own (h:ar o w a s)(e:∀x,x<w.heap.size->o' x=o x):ar o' w a s:=by obtain⟨S',T',MJ,E',A',V',Mj,D',h1,h2,h3,h4,h5⟩:=h;exact⟨S',T',MJ,E'.own e,A'.own e,V'.own e,Mj,D'.own e,(e _ S'.size).trans h1,(e _ T'.1.size).trans h2,(e _ T'.2.1.size).trans h3,(e _ MJ.size).trans h4,(e _ Mj.size).trans h5⟩
theorem ar.ko {F:Nat->Prop} (h:ar o w a s)(k:KO F w v)(hF:∀x,F x->o x=.no):ar o v a s:=by obtain⟨S',T',MJ,E',A',V',Mj,D',h1,h2,h3,h4,h5⟩:=h;have n:∀x t,o x=t->t≠.no->¬F x:=λx t e ht f=>ht (e ▸ hF x f);exact⟨S'.ko k (n _ _ h1 ρp),T'.ko k (n _ _ h2 ρp) (n _ _ h3 ρp),MJ.ko k (n _ _ h4 ρp),E'.ko k (λb i _ e f=>by have:=hF b f;rcases e with e|e<;>rw[this] at e<;>cases e),A'.ko k (λx e f=>by have:=hF x f;rw[this] at e;rcases e with e|e|e;exact e;cases e;cases e),V'.ko k (λb e=>n _ _ e ρp),Mj.ko k (n _ _ h5 ρp),D'.ko k (λb p _ e=>n _ _ e ρp),h1,h2,h3,h4,h5⟩
theorem ar.kdTo (h:ar o w a s) {p:Int} {t:Nat} {m:TM} {fp:Nat->Prop} (hp:bR s.L p=true)(ht:lk p a.LM=some (ψ t))(hf:∀x,fp x->o x=.kd p)(k:eZ 211 w v t m fp):ar (o.more w (.kd p)) v a {s with kd:=ax s.kd p m}:=by
 have h0:=h.own (o':=o.more w (.kd p)) (λx hx=>aV.more_lt hx);obtain⟨S',T',MJ,E',A',V',Mj,D',h1,h2,h3,h4,h5⟩:=h0;obtain⟨NF,k1,k2,k3⟩:=k;obtain⟨t2,fp2,ht2,g1,g2,D2⟩:=D'.out hp;have e2:=iR (ht.symm.trans ht2);subst e2;have sz:∀x,fp x->x<w.heap.size\/w.heap.size<=x:=λx _=>by omega
 have Qa:∀x,fp x->o.more w (.kd p) x=.kd p:=λx hx=>ηS
 have n:∀x q,o.more w (.kd p) x=q->q≠.kd p->¬fp x:=λx q e hq f=>hq (e ▸ Qa x f);have n2:∀x,(o.more w (.kd p) x)≠.kd p->¬fp x:=λx e f=>e (Qa x f);refine⟨S'.ko k3 (n _ _ h1 ρp),T'.ko k3 (n _ _ h2 ρp) (n _ _ h3 ρp),MJ.ko k3 (n _ _ h4 ρp),E'.ko k3 (λb i _ e=>n2 b (by rcases e with e|e<;>rw[e]<;>simp)),A'.ko k3 κm,V'.ko k3 (λb e=>n _ _ e ρp),Mj.ko k3 (n _ _ h5 ρp),?_,h1,h2,h3,h4,h5⟩;refine cK.back (D2.ko k3 (λb q hq e=>n _ _ e (by intro g;cases g;exact hq rfl))) ht k1 (λx hx=>?_);rcases Nat.lt_or_ge x w with hl|hl
 ·rw[aV.more_lt hl];rcases k2 x hx with g|g
  ·exact hf x g
  ·omega
 ·exact aV.more_ge hl
theorem ar.lvTo (h:ar o w a s) {m:TM} {fp:Nat->Prop} (hf:∀x,fp x->o x=.lv)(k:eZ 209 w v a.LV m fp):ar (o.more w .lv) v a {s with lv:=m}:=by
 have h0:=h.own (o':=o.more w .lv) (λx hx=>aV.more_lt hx);obtain⟨S',T',MJ,E',A',V',Mj,D',h1,h2,h3,h4,h5⟩:=h0;have k0:=k;obtain⟨NF,k1,k2,k3⟩:=k;have Qa:∀x,fp x->o.more w .lv x=.lv:=λx hx=>ηS
 have n2:∀x,(o.more w .lv x)≠.lv->¬fp x:=λx e f=>e (Qa x f);have n:∀x q,o.more w .lv x=q->q≠.lv->¬fp x:=λx q e hq f=>hq (e ▸ Qa x f);exact⟨S'.ko k3 (n _ _ h1 ρp),T'.ko k3 (n _ _ h2 ρp) (n _ _ h3 ρp),MJ.ko k3 (n _ _ h4 ρp),E'.ko k3 (λb i _ e=>n2 b (by rcases e with e|e<;>rw[e]<;>simp)),A'.ko k3 κm,ew.to (m:=m) hf k0,Mj.ko k3 (n _ _ h5 ρp),D'.ko k3 (λb p _ e=>n _ _ e ρp),h1,h2,h3,h4,h5⟩
theorem ar.actTo (h:ar o w a s) {S2:AS} (k:cJ o' v a.ON a.A a.O a.C s.L S2)(e:∀x,x<w.heap.size->o' x=o x)(k3:KO (λx=>(o x).act) w v):ar o' v a {s with A:=S2}:=by have h0:=h.own e;obtain⟨S',T',MJ,E',A',V',Mj,D',h1,h2,h3,h4,h5⟩:=h0;have k4:KO (λx=>(o' x).act) w v:=k3.mono (λx hx f=>by show TG.act (o' x);rw[e x hx];exact f);have n:∀x t,o' x=t->¬t.act->¬(o' x).act:=λx t e ht f=>ht (e ▸ f);exact⟨S'.ko k4 (n _ _ h1 id),T'.ko k4 (n _ _ h2 id) (n _ _ h3 id),MJ.ko k4 (n _ _ h4 id),E'.ko k4 (λb i _ e=>by rcases e with e|e<;>exact n _ _ e id),k,V'.ko k4 (λb e=>n _ _ e id),Mj.ko k4 (n _ _ h5 id),D'.ko k4 (λb p _ e=>n _ _ e id),h1,h2,h3,h4,h5⟩
theorem ar.entTo (h:ar o w a s) {i:Int} {c:CD} {b:Nat} {qv:ϗ} {x:EN} {F:Nat->Prop} (hc:fc s.L i=some c)(hb:lk i a.LB=some (ψ b))(hx:x.c=c)(k:KO F w v)(hF:∀y,F y->o y=.en i\/o y=.qu i)(k1:gZ o v i b qv x):ar o v a (s.setE i x):=by
 obtain⟨S',T',MJ,E',A',V',Mj,D',h1,h2,h3,h4,h5⟩:=h;obtain⟨b2,qv2,JR,_,_,E2⟩:=E'.out hc;have n:∀y t,o y=t->t≠.en i->t≠.qu i->¬F y:=λy t e t1 t2 f=>by
  rcases hF y f with g|g
  ·exact t1 (e.symm.trans g)
  ·exact t2 (e.symm.trans g)
 refine⟨S'.ko k (n _ _ h1 ρp ρp),T'.ko k (n _ _ h2 ρp ρp) (n _ _ h3 ρp ρp),MJ.ko k (n _ _ h4 ρp ρp),?_,A'.ko k (λx e f=>?_),V'.ko k (λb e=>n _ _ e ρp ρp),Mj.ko k (n _ _ h5 ρp ρp),D'.ko k (λb p _ e=>n _ _ e ρp ρp),h1,h2,h3,h4,h5⟩
 ·refine bo.back (E2.ko k (λy j hj e=>?_)) hc hb hx k1;rcases e with e|e<;>exact n _ _ e (by intro g;cases g<;>exact hj rfl) (by intro g;cases g<;>exact hj rfl)
 ·rcases hF x f with g|g<;>rw[g] at e<;>simp[TG.act] at e
theorem ar.numTo (h:ar o w a s) {clk acc:Int} (k:KO (λx=>x=a.S) w v)(hS:ah v a.S #[ι ε s.T,ι ε s.Lm,a.T,.map (some a.BY),a.ON,a.LV,.map (some a.KM),clk,acc] 155):ar o v a {s with clk:=clk,acc:=acc}:=by obtain⟨S',T',MJ,E',A',V',Mj,D',h1,h2,h3,h4,h5⟩:=h;have n:∀y t,o y=t->t≠.sy->¬y=a.S:=λy t e t1 f=>t1 (by rw[f,h1] at e;exact e.symm);exact⟨hS,T'.ko k (n _ _ h2 ρp) (n _ _ h3 ρp),MJ.ko k (n _ _ h4 ρp),E'.ko k (λb i _ e=>by rcases e with e|e<;>exact n _ _ e ρp),A'.ko k (λx e f=>by rw[f,h1] at e;rcases e with e|e|e;exact e;cases e;cases e),V'.ko k (λb e=>n _ _ e ρp),Mj.ko k (n _ _ h5 ρp),D'.ko k (λb p _ e=>n _ _ e ρp),h1,h2,h3,h4,h5⟩
end
structure SS.Wf (s:SS):Prop where
 tree:∀c ∈ s.L,bR s.L c.par=true
 nz:fc s.L 0=none
 ids:∀p j,s.kd p j≠none->∃c,fc s.L j=some c/\c.par=p
 up:∀c ∈ s.L,∃xs,dy s.L c.id xs/\xs.length<=1000
 ec:∀i c,fc s.L i=some c->(s.e i).c=c
 lvs:∀j,s.lv j≠none->∃c,fc s.L j=some c/\c.lf=true
 cls:∀c ∈ s.L,Go.Proofs.YtfdlemkplejdnaaGreat.kd c.r0 c.r1 c.r2≠0/\(Go.Proofs.YtfdlemkplejdnaaGreat.kd c.l0 c.l1 c.l2≠0/\Go.Proofs.YtfdlemkplejdnaaGreat.kd c.l0 c.l1 c.l2≠4)/\Go.Proofs.YtfdlemkplejdnaaGreat.kd c.u0 c.u1 c.u2≠0
 len:s.L.length<=1000
theorem SS.settle_snoc (s:SS)(xs:List Int)(x:Int):s.settle (xs++[x])=(s.settle xs).settle1 x:=by unfold SS.settle;rw[List.foldl_append];rfl
theorem SS.Wf.settle1 {s:SS} (h:s.Wf) {i:Int} (hi:∃c,fc s.L i=some c):(s.settle1 i).Wf:=by
 unfold SS.settle1;split
 ·refine⟨h.tree,h.nz,λp j hj=>?_,h.up,h.ec,h.lvs,h.cls,h.len⟩;unfold ax at hj;simp only[] at hj;split at hj
  ·rename_i e1;unfold aO at hj;split at hj
   ·rename_i e;obtain⟨c,hc⟩:=hi;exact⟨c,by rw[e];exact hc,by rw[e1,h.ec i c hc]⟩
   ·rw[e1];exact h.ids _ j hj
  ·exact h.ids p j hj
 ·exact h
theorem i8 {L:List CD} {j:Int} (h:∃c,fc L j=some c):j ∈ L.map CD.id:=by obtain⟨c,hc⟩:=h;exact List.mem_map.2 ⟨c,(aL hc).1,(aL hc).2⟩
theorem bo.at {o:aV} {w:ϖ} {L:List CD} {e:Int->EN} {LB:List (Int × ϗ)} {i:Int} {c:CD} (h:bN o w L e LB)(hc:fc L i=some c):∃b qv,lk i LB=some (ψ (some ⟨b,0,none⟩))/\(e i).c=c/\aj w b qv (e i)/\o b=.en i/\(e i).ok:=by obtain⟨b,qv,h1,h2,h3,_⟩:=h.out hc;exact⟨b,qv,h1,h2,h3.1,h3.2.1,h3.2.2.2⟩
theorem qc {ty:TypeId} {w:ϖ} {B:Nat} {m:TM} {fp:Nat->Prop} (h:aQ ty w B m fp):0<=fitT m/\fitT m<=Mc:=by
 obtain⟨T,M,t,L,h1,h2,h3,h4,h5,h6,h7,_⟩:=h;have rng:∀v,io m Mc v->0<=v/\v<=9223372036854775808:=by
  rintro v ⟨h1,h2,h3⟩;rcases h1 with h1|⟨j,q,hq,h1⟩
  ·omega
  ·have:=h7 j q hq;omega
 unfold fitT;split
 ·rename_i RF;exact rng _ (Classical.choose_spec RF)
 ·omega
theorem SS.fit_rng {o:aV} {w:ϖ} {a:Ad} {s:SS} {i:Int} {c:CD} (H:ar o w a s)(hc:fc s.L i=some c):0<=s.fit i/\s.fit i<=Ma:=by
 obtain⟨S',T',MJ,E',A',V',Mj,D',oS,oT,oM,Ty,TB⟩:=H;obtain⟨b,qv,h1,h2,h3,h4,ok⟩:=E'.at hc;have:=ok.2.2.2.2.2.2.1;unfold SS.fit;split
 ·exact this
 ·rename_i hn;have Np:bR s.L i=true:=by
   unfold bR;rw[hc];have:c.lf=false:=by
    rcases e:c.lf with _|_
    ·rfl
    ·exact az (.inl (by rw[h2];exact e)) hn
   simp[this]
  obtain⟨t,fp,_,T0,_,_⟩:=D'.out Np;have:=qc T0;omega
theorem eQ {L:List CD}:∀{xs:List Int} {i:Int},dy L i xs->∀y ∈ xs,∃c,fc L y=some c
 | [],_,_,y,hy=>by simp at hy
 | x::r,i,⟨c,h1,h2,h3⟩,y,hy=>by
  rcases ZC.1 hy with e|e
  ·exact⟨c,by rw[e,h2];exact h1⟩
  ·exact eQ h3 y e
theorem Dr (o:aV)(a:Ad)(s:SS)(i:Int)(b:Nat)(w:ϖ)(H:ar o w a s)(hc:∃c,fc s.L i=some c)(hb:lk i a.LB=some (ψ b))(v:Int)(hv:s.fit i=v):
  CB 214 #[a.S,b] w v:=by
 rw[<- hv];exact Fr o a s i b w H hc hb
theorem jp (o:aV)(a:Ad)(s:SS)(i:Int)(xs:List Int)(w:ϖ)(H:ar o w a s)(W:s.Wf)(hu:dy s.L i xs)(hx:xs.length<=1000):Calls Ψ 159 #[a.S,ι ε i] w λe w'=>e=ϰ (χ #[])/\∃o',ar o' w' a (s.settle xs)/\(∀x,x<w.heap.size->o' x=o x)/\KO (λx=>(o x).mine) w w':=by
 have S0:=H.1;have T0:=H.2.1;have zS:=S0.size;have cS:=S0.cell;have fS:=S0.frozen;go_in;go_wp2_with fail;refine(HJ a.T a.M s.L i xs w T0 hu hx).mono ?_;rintro e v1 ⟨u,rfl,G1,kx⟩;obtain⟨oa,oc,rfl⟩:=G1.slice;obtain⟨n,hn⟩:=Nq xs.length;rw[hn] at G1 hx ⊢;have QX:∀y ∈ xs,∃c,fc s.L y=some c:=eQ hu;replace hn:=ag hn;have z1:=kx.size;have H1:ar (o.more w .no) v1 a s:=(H.own (λx hx=>aV.more_lt hx)).below kx;have nz1:∀x,some x=(Value.slice oa n oc).ownBlock->o.more w .no x=.no:=λx hx=>aV.more_ge (G1.own_ge x hx.symm).1;have Vw:∀x,x<w.heap.size->o.more w .no x=o x:=λx hx=>aV.more_lt hx;have I':KO (λx=>(o x).mine) w v1:=(KO.of_below (F:=λ_=>False) kx).mono (λ_ _ f=>f.elim);clear S0 T0 cS fS;go_wp2_with fail;go_loopw [14] (λk wr=>∃(a1 b1:List Int) (o1:aV),k=ι ε (a1.length:Nat)/\xs=a1++b1/\ar o1 wr a (s.settle a1)/\(s.settle a1).Wf/\(s.settle a1).L=s.L/\HI wr w (ζ oa n oc) xs/\(∀x,some x=(Value.slice oa n oc).ownBlock->o1 x=.no)/\(∀x,x<w.heap.size->o1 x=o x)/\KO (λx=>(o x).mine) w wr) (λk _=>n - (intOf k).toNat);case atStart=>exact⟨[],xs,_,rfl,rfl,H1,W,rfl,G1,nz1,Vw,I'⟩
 case round=>
  obtain⟨a1,b1,o1,rfl,JK,H0,W0,eL,G0,nz0,NM,JG⟩:=hrel;clear H1 G1 nz1 Vw I';have JO:a1.length+b1.length=n:=σR;obtain⟨q,hq⟩:=Nq a1.length;rw[hq] at JO ⊢;have zw:=JG.size;cases b1 with
  | nil=>have JM:¬q<n:=ρn;have hd:=ZF JM;have QA:a1=xs:=ρL;rw[QA] at H0;change Hid _ at JO hq;clear JK QA;go_wp2_with fail;go_end0;exact⟨rfl,_,H0.below ρE,NM,JG.step0 ρE⟩
  | cons x r=>
   have JM:q<n:=ρn;have hd:=ZT JM;have MS:xs[q]?=some x:=ρC;have JX:xs≠[]:=ρP;obtain⟨c,hc⟩:=QX x ρP;have Ly:=SS.settle_snoc s a1 x;obtain⟨s1,KI⟩:=Nq (s.settle a1);rw[KI] at H0 W0 eL Ly;rw[<- eL] at hc;obtain⟨Us,NS,g0,e0,Kv,e1,_⟩:=af.at G0 (λ_=>rfl);have e1:=e1 JX;obtain⟨rfl,-,rfl⟩:=ZV e0;subst e1;obtain⟨cx,gx,bx⟩:=HI.cell G0 q x MS;have My:q<n:=ρn;have Ud:=W0.settle1 ⟨c,hc⟩;obtain⟨S',T',MJ,E',A',V',Mj,D',oS,oT,oM,Ty,TB⟩:=id H0;obtain⟨b,qv,hb,Kc,X',ob,ok⟩:=E'.at hc;have Nn:(s1.e x).c.id=x:=by rw[Kc];exact(aL hc).2
   obtain⟨z,hz⟩:=Nq (s1.A.is x);obtain⟨p,hp⟩:=Nq ((s1.e x).c.par);obtain⟨vt,Vm⟩:=Nq ((s1.e x).sh.t);obtain⟨ft,Xe⟩:=Nq (s1.fit x);have rft:=SS.fit_rng H0 hc;have rvt:=ok.2.2.2.2.1;rw[Xe] at rft;rw[Vm] at rvt;have Np:bR s1.L p=true:=by rw[<- hp,Kc];exact W0.tree c (aL hc).1
   obtain⟨t,fp,ht,T0,NU,-⟩:=D'.out Np;have Ll:=W0.ids p;change Hid _ at JK hq Kv JO KI Ly eL Nn hp Vm Xe hb ht hc Kc;clear T' E' V' D' oS oT oM Ty TB JX;have Sh:=S';have MV:=MJ;have Rf:=A';have Rx:=X';have Nt:=Mj;have XX:=T0;clear S' MJ A' X' Mj T0;have Rr:=Sh.r;have Kr:=((am Δ Θ MV x (z:=Kp) ρm).2.trans (by rw[hb.out];try rfl));have Kw:=((am Γ Θ Nt p (z:=Kp) ρm).2.trans ρT);have JU:=((aj.c1 Rx).trans τ0);have J0:=((aj.c2 Rx).trans (by rw[hp.out]));have Lt:=((aj.c48 Rx).trans (by rw[Vm.out]));go_wp2_with fail;refine(De s1.A a.ON a.A a.O a.C o1 s1.L x z _ Rf hz).mono ?_;rintro e v ⟨rfl,rfl⟩;replace hz:=ag hz;rcases z with _|_
   ·have he:s1.settle1 x=s1:=by unfold SS.settle1;rw[ZI (by rw[hz.out];simp)]
    go_wp2;go_roundw;case rel=>exact⟨a1++[x],r,o1,by rw[ZL,hq.out];go_num,by rw[JK.out];simp,by rw[Ly.out,he];exact H0.below ρE,by rw[Ly.out];exact Ud,by rw[Ly.out,he];exact eL.out,af.below G0 ρE,nz0,NM,JG.step0 ρE⟩
    case measure=>exact ξc
   ·have he:s1.settle1 x={s1 with kd:=ax s1.kd p (aO (s1.kd p) x (some (vt,ft)))}:=by unfold SS.settle1;rw[ZP hz.out,hp.out,Vm.out,Xe.out]
    clear Rf;replace he:=ag he;go_wp2_with fail;refine bK (θ8 JG H0 Sh MV Rx Nt G0 XX) ?_;clear Rr;rintro v1 ⟨I',H1,KC,Og,KW,Ls,G1,VL⟩ Rr;replace Kr:=((am Δ Θ Og x (z:=Kp) ρm).2.trans (by rw[hb.out];try rfl));replace Kw:=((am Γ Θ Ls p (z:=Kp) ρm).2.trans ρT);replace JU:=((aj.c1 KW).trans τ0);replace J0:=((aj.c2 KW).trans (by rw[hp.out]));replace Lt:=((aj.c48 KW).trans (by rw[Vm.out]));have NC:=ae KC;have Lo:=λd os=>((am Δ Θ (Og.grow d os) x (z:=Kp) ρm).2.trans (by rw[hb.out];try rfl));have J8:=λd os=>((aj.c1 (KW.below (ZW _ d os))).trans τ0);have Kq:=λd os=>((aj.c2 (KW.below (ZW _ d os))).trans (by rw[hp.out]));have ND:=λd os=>((aj.c48 (KW.below (ZW _ d os))).trans (by rw[Vm.out]));have Lp:=λd os=>((am Γ Θ (Ls.grow d os) p (z:=Kp) ρm).2.trans ρT);refine Ws 19 (nY ?_)
    repeat (go_big_quiet_step ((first
      | (go_at_call 214;(with_reducible exact bZ (Dr o1 a s1 x b _ (H1.below (ZW _ _ _)) ⟨c,hc.out⟩ hb.out ft Xe.out))))))
    refine bB (θ8 H1 KC Og KW Ls G1 VL I') ?_;clear Rr;rintro v2 ⟨H2,LJ,Pm,K6,OM,G2,T02,JE⟩ Rr;replace Kr:=((am Δ Θ Pm x (z:=Kp) ρm).2.trans (by rw[hb.out];try rfl));replace Kw:=((am Γ Θ OM p (z:=Kp) ρm).2.trans ρT);replace JU:=((aj.c1 K6).trans τ0);replace J0:=((aj.c2 K6).trans (by rw[hp.out]));replace Lt:=((aj.c48 K6).trans (by rw[Vm.out]));clear NC Lo J8 Kq ND Lp H1 KC Og KW Ls G1 VL;go_wp2_with fail;refine(Gn t (s1.kd p) fp x vt ft (s1.L.map CD.id) _ T02 rvt rft (λj hj=>i8 ((Ll j hj).imp λc h=>h.1)) (by rw[px];have:=W0.len;omega)).mono ?_;rintro e v3 ⟨rfl,TT⟩;have H3:=H2.kdTo Np ht.out NU TT;obtain⟨fp3,_,_,kx⟩:=TT;have JI:=JE.trans kx (by intro y hy f;show TG.mine _;rw[<- NM y hy,NU y f];simp[TG.mine]);have G3:=af.ko G2 kx (λy _ hy f=>by have h1:=nz0 y hy;rw[NU y f] at h1;cases h1);go_wp2;go_roundw;case rel=>exact⟨a1++[x],r,o1.more v2 (.kd p),by rw[ZL,hq.out];go_num,by rw[JK.out];simp,by rw[Ly.out,he.out];exact H3.below ρE,by rw[Ly.out];exact Ud,by rw[Ly.out,he.out];exact eL.out,af.below G3 ρE,λy hy=>(aV.more_lt (G2.own_ge y hy.symm).2).trans (nz0 y hy),λy hy=>(aV.more_lt (by have:=JE.size;omega)).trans (NM y hy),JI.step0 ρE⟩
    case measure=>exact ξc
theorem dG {P:Program} {JF:Array Oper} {rest:List Oper} {op:Oper} {a:Act} {v:ϖ} {Q:Act->Prop} (ty:TypeId)(x:Operand)(B o:Nat)(cs cs':Array ϗ)(t:TypeId)(d:TypeDesc)
  (ho:op.op=.load ty x) (hw:Region.wanted op (yielded JF a.tmps)=true) (hx:a.eval x=ψ (some ⟨B,o,none⟩)) (hB:ah v B cs t) (hc:∀j u,cs'.toList[j]?=some u->cs[o+j]?=some u) (hu:P.underlying ty=some d) (hd:d.isRow=true) (hi:(P.info? ty).map (·.size)=some cs'.size)
  (h:wpQuiet P JF (λw'=>∃p:Regrown,w'=grow (redrawn v p.d) p.os) Q rest (a.put op.dst (φ cs'))):wpQuiet P JF (λw'=>∃p:Regrown,w'=grow (redrawn v p.d) p.os) Q (op::rest) a:=by
 refine wpQuiet_step λK hK=>?_;rw[ZP hw];refine⟨φ cs',λw' Ov=>?_,hK _ h⟩;obtain⟨p,rfl⟩:=Ov;have hb:ah (grow (redrawn v p.d) p.os) B cs t:=ah.below hB (ZW _ _ _) hB.size;have hl:=run_loadVar_mid (P:=P) (grow (redrawn v p.d) p.os) B o ty cs'.toList d (λj u hj=>by rw[hb.cell];exact hc j u hj) hu hd τk;unfold Oper.quietAt execOp;simp only[ho,hx,Instr.loadAt,Instr.sureAddr,Sem.run_bind,Sem.run_pure,Result.andThen_ok,hl,Oper.quietUpon];exact⟨trivial,by simp⟩
theorem iH {P:Program} {JF:Array Oper} {rest:List Oper} {op:Oper} {a:Act} {w:ϖ} {Q:Exit->Act->ϖ->Prop} (ty:TypeId)(x y:Operand)(B o:Nat)(cs cs' Qp:Array ϗ)(t:TypeId)
  (Mt:op.guard=none) (ho:op.op=.store ty x y) (hx:a.eval x=ψ (some ⟨B,o,none⟩)) (hy:a.eval y=φ cs') (hB:ah w B cs t) (Lz:o+cs'.size<=cs.size) (Ny:cH cs o cs'.toList=Qp) (hi:(P.info? ty).map (·.size)=some cs'.size) (h1:cs'.all (·.oneCell')=true)
  (h:∀w',ah w' B Qp t->KO (λk=>k=B) w w'->w'.heap.size=w->wpList P JF Q rest (a.put op.dst undef) w'):wpList P JF Q (op::rest) a w:=by
 refine wpList_store_mid Mt ty x y ho B o cs' hx hy (λj hj=>?_) hi h1 ?_
 ·exact ηu
 ·have hb:=ah.setCells cs'.toList o w cs hB;rw[Ny] at hb;exact h _ hb (KO.setCells (F:=λk=>k=B) (λ_=>rfl) _ _ _ (KO.refl _ _)) (eq B _ _ _)
theorem aj.lcl {JF:Array Oper} {rest:List Oper} {op:Oper} {a:Act} {w:ϖ} {Q:Exit->Act->ϖ->Prop} {b:Nat} {qv:ϗ} {x:EN} (hB:aj w b qv x)(p:Operand)(Mt:op.guard=none)(ho:op.op=.load 43 p)(hx:a.eval p=ψ (some ⟨b,1,none⟩))
  (h:wpList Ψ JF Q rest (a.put op.dst (CD.v x.c)) w):wpList Ψ JF Q (op::rest) a w:=
 vU 43 p b 1 (oy x qv) (fd x.c) 244 _ Mt ho hx hB ρ0 Tryz.underlying43 rfl ρh h
theorem aj.qrt {JF:Array Oper} {rest:List Oper} {op:Oper} {a:Act} {v:ϖ} {Q:Act->Prop} {b:Nat} {qv:ϗ} {x:EN} (hB:aj v b qv x)(p:Operand)(ho:op.op=.load 41 p)(hw:Region.wanted op (yielded JF a.tmps)=true)(hx:a.eval p=ψ (some ⟨b,4,none⟩))
  (h:wpQuiet Ψ JF (λw'=>∃p:Regrown,w'=grow (redrawn v p.d) p.os) Q rest (a.put op.dst (φ (aJ x.c.r0 x.c.r1 x.c.r2)))):wpQuiet Ψ JF (λw'=>∃p:Regrown,w'=grow (redrawn v p.d) p.os) Q (op::rest) a:=
 dG 41 p b 4 (oy x qv) (aJ x.c.r0 x.c.r1 x.c.r2) 244 _ ho hw hx hB σC Tryz.underlying41 rfl ρh h
theorem aj.qls {JF:Array Oper} {rest:List Oper} {op:Oper} {a:Act} {v:ϖ} {Q:Act->Prop} {b:Nat} {qv:ϗ} {x:EN} (hB:aj v b qv x)(p:Operand)(ho:op.op=.load 41 p)(hw:Region.wanted op (yielded JF a.tmps)=true)(hx:a.eval p=ψ (some ⟨b,7,none⟩))
  (h:wpQuiet Ψ JF (λw'=>∃p:Regrown,w'=grow (redrawn v p.d) p.os) Q rest (a.put op.dst (φ (aJ x.c.l0 x.c.l1 x.c.l2)))):wpQuiet Ψ JF (λw'=>∃p:Regrown,w'=grow (redrawn v p.d) p.os) Q (op::rest) a:=
 dG 41 p b 7 (oy x qv) (aJ x.c.l0 x.c.l1 x.c.l2) 244 _ ho hw hx hB σC Tryz.underlying41 rfl ρh h
theorem aj.qul {JF:Array Oper} {rest:List Oper} {op:Oper} {a:Act} {v:ϖ} {Q:Act->Prop} {b:Nat} {qv:ϗ} {x:EN} (hB:aj v b qv x)(p:Operand)(ho:op.op=.load 41 p)(hw:Region.wanted op (yielded JF a.tmps)=true)(hx:a.eval p=ψ (some ⟨b,10,none⟩))
  (h:wpQuiet Ψ JF (λw'=>∃p:Regrown,w'=grow (redrawn v p.d) p.os) Q rest (a.put op.dst (φ (aJ x.c.u0 x.c.u1 x.c.u2)))):wpQuiet Ψ JF (λw'=>∃p:Regrown,w'=grow (redrawn v p.d) p.os) Q (op::rest) a:=
 dG 41 p b 10 (oy x qv) (aJ x.c.u0 x.c.u1 x.c.u2) 244 _ ho hw hx hB σC Tryz.underlying41 rfl ρh h
theorem aj.qdu {JF:Array Oper} {rest:List Oper} {op:Oper} {a:Act} {v:ϖ} {Q:Act->Prop} {b:Nat} {qv:ϗ} {x:EN} (hB:aj v b qv x)(p:Operand)(ho:op.op=.load 238 p)(hw:Region.wanted op (yielded JF a.tmps)=true)(hx:a.eval p=ψ (some ⟨b,16,none⟩))
  (h:wpQuiet Ψ JF (λw'=>∃p:Regrown,w'=grow (redrawn v p.d) p.os) Q rest (a.put op.dst (eA x.du))):wpQuiet Ψ JF (λw'=>∃p:Regrown,w'=grow (redrawn v p.d) p.os) Q (op::rest) a:=
 dG 238 p b 16 (oy x qv) (dD x.du.has x.du.D x.du.E x.du.p x.du.e x.du.t) 244 _ ho hw hx hB ρM Tryz.underlying238 rfl ρh h
theorem aj.qsh {JF:Array Oper} {rest:List Oper} {op:Oper} {a:Act} {v:ϖ} {Q:Act->Prop} {b:Nat} {qv:ϗ} {x:EN} (hB:aj v b qv x)(p:Operand)(ho:op.op=.load 240 p)(hw:Region.wanted op (yielded JF a.tmps)=true)(hx:a.eval p=ψ (some ⟨b,38,none⟩))
  (h:wpQuiet Ψ JF (λw'=>∃p:Regrown,w'=grow (redrawn v p.d) p.os) Q rest (a.put op.dst (jO x.sh))):wpQuiet Ψ JF (λw'=>∃p:Regrown,w'=grow (redrawn v p.d) p.os) Q (op::rest) a:=
 dG 240 p b 38 (oy x qv) (eT x.sh.has x.sh.r x.sh.t) 244 _ ho hw hx hB σa Tryz.underlying240 rfl ρh h
theorem aj.qcp {JF:Array Oper} {rest:List Oper} {op:Oper} {a:Act} {v:ϖ} {Q:Act->Prop} {b:Nat} {qv:ϗ} {x:EN} (hB:aj v b qv x)(p:Operand)(ho:op.op=.load 242 p)(hw:Region.wanted op (yielded JF a.tmps)=true)(hx:a.eval p=ψ (some ⟨b,49,none⟩))
  (h:wpQuiet Ψ JF (λw'=>∃p:Regrown,w'=grow (redrawn v p.d) p.os) Q rest (a.put op.dst (jO x.cp))):wpQuiet Ψ JF (λw'=>∃p:Regrown,w'=grow (redrawn v p.d) p.os) Q (op::rest) a:=
 dG 242 p b 49 (oy x qv) (eT x.cp.has x.cp.r x.cp.t) 244 _ ho hw hx hB σa Tryz.underlying242 rfl ρh h
theorem aj.sdu {JF:Array Oper} {rest:List Oper} {op:Oper} {a:Act} {w:ϖ} {Q:Exit->Act->ϖ->Prop} {b:Nat} {qv:ϗ} {x:EN} (hB:aj w b qv x)(l:LF)(p y:Operand)(Mt:op.guard=none)(ho:op.op=.store 238 p y)(hx:a.eval p=ψ (some ⟨b,16,none⟩))(hy:a.eval y=φ (dD l.has l.D l.E l.p l.e l.t))
  (h:∀w',aj w' b qv {x with du:=l}->KO (λk=>k=b) w w'->w'.heap.size=w->wpList Ψ JF Q rest (a.put op.dst undef) w'):wpList Ψ JF Q (op::rest) a w:=
 iH 238 p y b 16 (oy x qv) (dD l.has l.D l.E l.p l.e l.t) (oy {x with du:=l} qv) 244 Mt ho hx hy hB ρp ρh ρh σg h
theorem aj.ssh {JF:Array Oper} {rest:List Oper} {op:Oper} {a:Act} {w:ϖ} {Q:Exit->Act->ϖ->Prop} {b:Nat} {qv:ϗ} {x:EN} (hB:aj w b qv x)(c:CH)(p y:Operand)(Mt:op.guard=none)(ho:op.op=.store 240 p y)(hx:a.eval p=ψ (some ⟨b,38,none⟩))(hy:a.eval y=φ (eT c.has c.r c.t))
  (h:∀w',aj w' b qv {x with sh:=c}->KO (λk=>k=b) w w'->w'.heap.size=w->wpList Ψ JF Q rest (a.put op.dst undef) w'):wpList Ψ JF Q (op::rest) a w:=
 iH 240 p y b 38 (oy x qv) (eT c.has c.r c.t) (oy {x with sh:=c} qv) 244 Mt ho hx hy hB ρp ρh ρh σg h
theorem aj.scp {JF:Array Oper} {rest:List Oper} {op:Oper} {a:Act} {w:ϖ} {Q:Exit->Act->ϖ->Prop} {b:Nat} {qv:ϗ} {x:EN} (hB:aj w b qv x)(c:CH)(p y:Operand)(Mt:op.guard=none)(ho:op.op=.store 242 p y)(hx:a.eval p=ψ (some ⟨b,49,none⟩))(hy:a.eval y=φ (eT c.has c.r c.t))
  (h:∀w',aj w' b qv {x with cp:=c}->KO (λk=>k=b) w w'->w'.heap.size=w->wpList Ψ JF Q rest (a.put op.dst undef) w'):wpList Ψ JF Q (op::rest) a w:=
 iH 242 p y b 49 (oy x qv) (eT c.has c.r c.t) (oy {x with cp:=c} qv) 244 Mt ho hx hy hB ρp ρh ρh σg h
theorem xz (o:aV)(a:Ad)(s:SS)(now:Int)(w:ϖ)(H:ar o w a s)(h:¬now<s.clk)(h2:¬4611686018427387904<now):Calls Ψ 126 #[a.S,now] w λe w'=>e=ϰ fK/\ar o w' a {s with clk:=now}/\KO (λx=>x=a.S) w w':=by
 have S':=H.1;have rS:=S'.r;have d1:decide (now<s.clk)=false:=ZF h;have d2:decide (4611686018427387904<now)=false:=ZF h2;go_in;go_wp2;go_ret;have k:KO (λx=>x=a.S) w (w.setCell ⟨a.S,7,none⟩ now):=ρK;exact⟨rfl,H.numTo (clk:=now) (acc:=s.acc) k ρB,k⟩
open Classical in
noncomputable def di (m:TM):Int:=if h:∃v,eY m Mc v then h.choose else Mc
theorem tg {m:TM} {d v u:Int} (h:eY m d v)(k:eY m d u):v=u:=ξ3
theorem xX {m:TM} {v:Int} (h:eY m Mc v):di m=v:=by unfold di;rw[dif_pos ⟨v,h⟩];exact tg (Classical.choose_spec (⟨v,h⟩:∃v,eY m Mc v)) h
theorem Ew (B:Nat)(m:TM)(fp:Nat->Prop)(w:ϖ)(H:aQ 209 w B m fp)(v:Int)(hv:di m=v):
  CB 171 #[B] w v:=by
 refine(Gm B m fp w H).mono ?_;rintro e w' ⟨u,rfl,hu,hb⟩;exact⟨by rw[<- hv,xX hu],hb⟩
theorem Fq (o:aV)(a:Ad)(s:SS)(w:ϖ)(H:ar o w a s):
  CB 134 #[a.S] w (ι υ (min (di s.lv) (fitT (s.kd 0)))):=by
 obtain⟨S',-,-,-,-,⟨Te,V',-⟩,Mj,D',-⟩:=H;obtain⟨t,fp,ht,T0,-,-⟩:=D'.out (p:=0) rfl;obtain⟨x,hx⟩:=Nq (di s.lv);obtain⟨y,hy⟩:=Nq (fitT (s.kd 0));rw[hx,hy];change Hid _ at hx hy ht;clear D';have Rr:=S'.r;have Kw:=((am Γ Θ Mj 0 (z:=Kp) ρm).2.trans ρT);unfold CB;go_in;go_wp2_with fail;refine bK (θ5 (Ks (λ_=>False) w) S' V' Mj T0) ?_;clear Rr;rintro v1 ⟨I',KC,V'1,Ls,VL⟩ Rr;replace Kw:=((am Γ Θ Ls 0 (z:=Kp) ρm).2.trans ρT);have q:=ae KC;have Lp:=λd os=>((am Γ Θ (Ls.grow d os) 0 (z:=Kp) ρm).2.trans ρT);refine Wq ?_
 repeat (go_big_quiet_step ((first
   | (go_at_call 171;(with_reducible exact bZ (Ew a.LV _ Te _ (V'1.below (ZW _ _ _)) x hx.out)))
   | (go_at_call 172;(with_reducible exact bZ (CK t (s.kd 0) fp _ (VL.below (ZW _ _ _)) y hy.out))))))
 refine bB (θ5 KC V'1 Ls VL I') ?_;clear Rr;rintro v2 ⟨LJ,V'2,OM,T02,JE⟩ Rr;replace Kw:=((am Γ Θ OM 0 (z:=Kp) ρm).2.trans ρT);clear q Lp KC V'1 Ls VL;go_wp2;go_ret;exact⟨rfl,(JE.step0 ρE).toBelow⟩
theorem jM {L:List CD}:∀{xs ys:List Int} {i:Int},dy L i xs->dy L i ys->xs=ys
 | [],[],_,_,_=>rfl
 | [],y::r,i,h,⟨c,h1,_⟩=>by have h:fc L i=none:=h;rw[h] at h1;cases h1
 | x::r,[],i,⟨c,h1,_⟩,h=>by have h:fc L i=none:=h;rw[h] at h1;cases h1
 | x::r,y::q,i,⟨c,h1,h2,h3⟩,⟨d,k1,k2,k3⟩=>by rw[h1] at k1;cases k1;rw[h2,k2,jM h3 k3]
open Classical in
noncomputable def Hx (L:List CD) (i:Int):Nat:=if h:∃xs,dy L i xs then h.choose.length else 0
theorem sU {L:List CD} {xs:List Int} {i:Int} (h:dy L i xs):Hx L i=xs.length:=by unfold Hx;rw[dif_pos ⟨xs,h⟩];exact ZG List.length (jM (Classical.choose_spec (⟨xs,h⟩:∃xs,dy L i xs)) h)
theorem xw (o:aV)(a:Ad)(s:SS)(now:Int)(w:ϖ)(H:ar o w a s)(W:s.Wf):Calls Ψ 160 #[a.S,now] w λe w'=>∃i b ok,e=ϰ (χ #[ι ε i,β b,β ok])/\((ok=true/\SS.Choose s now (some (i,b)))\/(ok=false/\i=0/\b=false/\SS.Choose s now none))/\Below w w w':=by
 obtain⟨S',-,MJ,E',-,⟨Te,V',-⟩,Mj,D',-⟩:=id H;have Rr:=S'.r;go_in;go_wp2_with fail;refine(Ex a.LV s.lv Te now _ w V' rfl).mono ?_;rintro e v1 ⟨i,ok,rfl,RJ,kx⟩;have H1:=H.below kx;have z1:=kx.size;rcases ok with _|_
 rotate_left
 ·replace RJ:=ag RJ;go_wp2;go_returns;exact⟨i,true,true,rfl,.inl ⟨rfl,.inl ⟨i,RJ.out,rfl⟩⟩,kx.trans (Below.mono ρE z1)⟩
 obtain⟨rfl,Pg⟩:=id RJ;replace Pg:=ag Pg;replace RJ:=ag RJ;clear V';go_wp2_with fail;go_loopw [9] (λt wr=>∃i:Int,t=ι ε i/\ar o wr a s/\bR s.L i=true/\(∃xs,dy s.L i xs/\xs.length<=1000)/\(∀r,SS.Chain s now i r->SS.Chain s now 0 r)/\Below w w wr) (λt _=>1000 - Hx s.L (intOf t));case atStart=>exact⟨0,rfl,H1,rfl,⟨[],by show fc s.L 0=none;exact W.nz,by simp⟩,λr h=>h,kx⟩
 case round=>
  clear S' MJ E' Mj D' H1 kx;obtain⟨i,rfl,H0,Np,⟨xs,JK,RO⟩,Kh,JG⟩:=hrel;obtain⟨Sh,-,MV,E',-,-,Nt,D',-⟩:=id H0;obtain⟨t,fp,ht,XX,-,-⟩:=D'.out Np;have zw:=JG.size;replace Np:=ag Np;replace ht:=ag ht;replace Kh:=ag Kh;replace JK:=ag JK;clear D';have lK:=((am Γ Θ Nt i (z:=Kp) ρm).2.trans ρT);have Ss:=Sh.r;go_wp2_with fail;refine(Ey t (s.kd i) fp now _ wr XX rfl).mono ?_;rintro e v2 ⟨j,ok,rfl,Xo,kx⟩;have H2:=H0.below kx;have z2:=kx.size;rcases ok with _|_
  ·obtain⟨rfl,-⟩:=id Xo;replace Xo:=ag Xo;go_wp2;go_returns;exact⟨0,false,false,rfl,.inr ⟨rfl,rfl,rfl,.inr ⟨RJ.out,.inr ⟨Kh.out _ (.none Xo.out),rfl⟩⟩⟩,JG.trans ((kx.trans (Below.mono ρE z2)).mono zw)⟩
  ·obtain⟨y,hy,-⟩:=id Xo;obtain⟨c,hc,Kt⟩:=W.ids i j (by rw[hy];simp);obtain⟨LJ,-,Pm,YV,-,-,OM,-,-⟩:=id H2;obtain⟨b,qv,hb,Kc,K6,-,-⟩:=YV.at hc;obtain⟨lf,Lb⟩:=Nq ((s.e j).c.lf);have lB:=((am Δ Θ Pm j (z:=Kp) ρm).2.trans (by rw[hb];try rfl));have lX:=(aj.c3 K6).trans (by rw[Lb]);replace Ss:=LJ.r;replace Xo:=ag Xo;replace hy:=ag hy;replace hc:=ag hc;replace Lb:=ag Lb;replace Kt:=ag Kt;replace hb:=ag hb;replace Kc:=ag Kc;clear lK E' YV;rcases lf with _|_
   ·go_wp2;go_roundw;case rel=>exact⟨j,rfl,H2.below ρE,by unfold bR;rw[hc.out];have:=Lb.out;rw[Kc.out] at this;simp[this],(W.up c (aL hc.out).1).imp λys h=>⟨(aL hc.out).2 ▸ h.1,h.2⟩,λr h=>Kh.out r (.inner Xo.out Lb.out h),JG.trans ((kx.trans (Below.mono ρE z2)).mono zw)⟩
    case measure=>
     obtain⟨ys,Ke,QB⟩:=W.up c (aL hc.out).1;rw[(aL hc.out).2] at Ke;have e1:=sU JK.out;have e2:=sU Ke;have e3:dy s.L j (j::xs):=⟨c,hc.out,rfl,by rw[Kt.out];exact JK.out⟩;have e4:=sU e3;simp only[intOf,uo] at*;omega
   ·go_wp2;go_returns;exact⟨j,false,true,rfl,.inl ⟨rfl,.inr ⟨RJ.out,.inl ⟨j,Kh.out _ (.leaf Xo.out Lb.out),rfl⟩⟩⟩,JG.trans ((kx.trans (Below.mono ρE z2)).mono zw)⟩
theorem qg {w:ϖ} {B:Nat} {JW:Int} {c:Nat} {l:List PK} {fp:Nat->Prop} (H:aY w B JW c l fp):-Mc<=av l/\av l<=Mb:=by
 obtain⟨R,S,f,ps,k0,k1,k2,k3,k4,k5,B',G,LS,JS,_⟩:=H;cases l with
 | nil=>simp[av]
 | cons p r=>have:=JS p ρp;simp only[av];omega
theorem yp (B:Nat)(JW:Int)(c:Nat)(l:List PK)(fp:Nat->Prop)(w:ϖ)(H:aY w B JW c l fp)(n:Int)(hn:av l=n):
  CB 220 #[B] w (ι ε n):=by
 rw[<- hn];exact FJ B JW c l fp w H
theorem uw {l:LF} {x:Bool} {s h:Int} (ol:l.ok):(if x then l.took s h else l.headed h).ok/\(0<=(if x then l.took s h else l.headed h).e/\(if x then l.took s h else l.headed h).e<=Ma)/\(0<=(if x then l.took s h else l.headed h).t/\(if x then l.took s h else l.headed h).t<=Ma):=by
 have key:∀(m:LF) (h:Int),m.ok->(m.headed h).ok/\(0<=(m.headed h).e/\(m.headed h).e<=Ma)/\(0<=(m.headed h).t/\(m.headed h).t<=Ma):=by
  intro m h om;unfold LF.headed;split
  ·have r1:=RN.reach_rng om.2.1 (m.p*65536);have r2:=RN.reach_rng om.1 (IntKind.u64.wrap (m.p+h)*65536);exact⟨om,by simp only[];omega,by simp only[];omega⟩
  ·exact⟨om,by simp,by simp⟩
 cases x with
 | false=>exact key l h ol
 | true=>simp only[if_true];unfold LF.took;exact key _ h ⟨ol.1,ol.2.1,r9 _⟩
theorem kp (s:SS)(i:Int):s.setE i (s.e i)=s:=by
 have:ax s.e i (s.e i)=s.e:=funext λj=>by unfold ax;split<;>simp_all
 unfold SS.setE;rw[this]
theorem ar.same {o:aV} {w:ϖ} {a:Ad} {s s':SS} (h:ar o w a s)(e:s=s'):ar o w a s':=e ▸ h
theorem pV {s:SS} {i len:Int} {x:Bool} {l:LF} (hr:SS.real (s.e i).c=true)(hl:(if x then (s.e i).du.took len (av (s.e i).q) else (s.e i).du.headed (av (s.e i).q))=l)(hq:(s.e i).q≠[]):s.due i len x={(s.setE i {s.e i with du:=l}) with lv:=aO s.lv i (some (l.e,l.t))}:=by unfold SS.due;rw[ZP hr,hl,ZI hq];rfl
theorem uv {s:SS} {i len:Int} {x:Bool} {l:LF} (hr:SS.real (s.e i).c=true)(hl:(if x then (s.e i).du.took len (av (s.e i).q) else (s.e i).du.headed (av (s.e i).q))=l)(hq:(s.e i).q=[]):s.due i len x={(s.setE i {s.e i with du:=l}) with lv:=aO (aO s.lv i (some (l.e,l.t))) i none}:=by unfold SS.due;rw[ZP hr,hl,ZP hq];rfl
theorem Dq (o:aV)(a:Ad)(s:SS)(i len:Int)(by_:Bool)(c:CD)(b:Nat)(w:ϖ)(H:ar o w a s)(W:s.Wf)(hc:fc s.L i=some c)(Lb:c.lf=true)(hb:lk i a.LB=some (ψ b))(JS:-Mc<=len/\len<=Mb):Calls Ψ 164 #[a.S,b,ι ε len,β by_] w λe w'=>e=ϰ (χ #[])/\∃o',ar o' w' a (s.due i len by_)/\(∀x,x<w.heap.size->o' x=o x)/\KO (λx=>(o x).mine) w w':=by
 obtain⟨S',T',MJ,E',A',⟨Te,V',Qc⟩,Mj,D',oS,oT,oM,Ty,TB⟩:=id H;obtain⟨b2,qv,JR,Kc,E0,-⟩:=E'.out hc;have eb:=iR (hb.symm.trans JR);subst eb;obtain⟨X0,ob,Q0,ok⟩:=E0;have X':aj w b qv (s.e i):=X0;have RG:(s.e i).c.lf=true:=by rw[Kc];exact Lb
 unfold dT at Q0;rw[ZP RG] at Q0;obtain⟨Q,Pw,rfl,Q',Ot⟩:=Q0;have Nn:(s.e i).c.id=i:=by rw[Kc];exact(aL hc).2
 obtain⟨rl,Mz⟩:=Nq (SS.real (s.e i).c);have rng:0<=(s.e i).c.r0/\0<=(s.e i).c.r1/\0<=(s.e i).c.r2:=by rw[Kc];obtain⟨h1,-⟩:=id H;exact(T'.2.2 c (aL hc).1).2.2.1
 obtain⟨MF,hhd⟩:=Nq (av (s.e i).q);have rhd:-Mc<=MF/\MF<=Mb:=by rw[<- hhd];exact qg Q'
 have Ll:=W.lvs;obtain⟨L2,MD⟩:=Nq (if by_ then (s.e i).du.took len MF else (s.e i).du.headed MF);have Rc:L2.ok/\(0<=L2.e/\L2.e<=Ma)/\(0<=L2.t/\L2.t<=Ma):=by rw[<- MD];exact uw ok.1
 have okd:=ok.1;change Hid _ at Nn Kc hhd Ot Qc Ll ok;have Tn:=ag hb;have hc0:=ag hc;have PH:=ag Mz;clear Mz T' MJ E' A' Mj D' JR;have Rr:=S'.r;have JU:=(aj.c0 X');go_in;go_wp2_with (refine aj.lcl X' (.tmp 10) ρs ρs ρs ?_);go_wp2_with fail;refine(rb _ (s.e i).c.id (s.e i).c.par (s.e i).c.lf (s.e i).c.r0 (s.e i).c.r1 (s.e i).c.r2 (s.e i).c.l0 (s.e i).c.l1 (s.e i).c.l2 (s.e i).c.u0 (s.e i).c.u1 (s.e i).c.u2 (s.e i).c.pk (s.e i).c.by_ rng rl PH.out).mono ?_;rintro e v1 ⟨rfl,kx⟩;have JG:KO (λy=>y=b) w w:=KO.refl _ _;obtain⟨KC,KW,VK,I'⟩:=Mw kx (θ4 S' X' Q' (Ks (λy=>y=b) w));clear kx S' Q';replace Rr:=KC.r;replace JU:=(aj.c0 KW);rcases rl with _|_
 ·have he:s.due i len by_=s:=by unfold SS.due;rw[PH.out];simp
  replace he:=ag he;go_wp2;go_returns;rw[he.out];exact⟨rfl,o,(H.entTo hc hb Kc.out (I'.step0 ρE) τo ⟨KW.below ρE,ob,by unfold dT;rw[ZP RG];exact⟨Q,Pw,rfl,VK.below ρE,Ot.out⟩,ok.out⟩).same (kp s i),λ_ _=>rfl,(I'.step0 ρE).mono σN⟩
 rcases by_ with _|_
 ·simp only[Bool.false_eq_true,if_false] at MD;have MD:=ag MD;go_wp2_with fail;refine bK (θ4 I' KC KW VK) ?_;clear Rr;rintro v2 ⟨JE,LJ,K6,TQ⟩ Rr;replace JU:=(aj.c0 K6);have q:=ae LJ;have J8:=λd os=>(aj.c0 (K6.below (ZW _ d os)));refine Ws 13 (nY ?_)
  repeat (first
   | (refine aj.qdu K6 (.tmp 32) ρs ρs ρs ?_;(try simp only[Act.put,List.setIfInBounds_toArray,List.set_cons_succ,List.set_cons_zero]))
   | (go_big_quiet_step ((first
    | (go_at_call 220;(with_reducible exact bZ (yp Q _ _ _ Pw _ (TQ.below (ZW _ _ _)) MF hhd.out)))
    | (go_at_call 221;(with_reducible exact bZ (tB _ L2 MF _ okd rhd MD.out)))))))
  refine bB (θ4 LJ K6 TQ JE) ?_;clear Rr;rintro v3 ⟨LP,K7,XV,JI⟩ Rr;replace JU:=(aj.c0 K7);clear q J8 LJ K6 TQ;refine aj.sdu K7 L2 (.tmp 41) (.tmp 39) ρs ρs ρs ρs ?_;intro v4 K8 kx zx;have N5:=LP.ko kx τR;have WF:=XV.ko kx κs;have JJ:KO (λy=>y=b) w v4:=JI.trans kx σh;replace Rr:=N5.r;replace JU:=(aj.c0 K8);replace J0:=((aj.c1 K8).trans ρw);replace Lt:=(aj.c36 K8);replace Vs:=(aj.c37 K8);have H4:=H.entTo hc hb (x:={s.e i with du:=L2}) Kc.out JJ τo ⟨K8,ob,by unfold dT;rw[ZP RG];exact⟨Q,Pw,rfl,WF,Ot.out⟩,⟨Rc.1,Rc.2.1,Rc.2.2,ok.out.2.2.2⟩⟩;have YH:KO (λx=>(o x).mine) w v4:=JJ.mono σN;have V4:=V'.ko JJ σ5;clear kx zx JJ X';have JJ:=YH;clear YH;go_wp2_with fail;refine bK (θ6 JJ H4 V4 N5 K8 WF) ?_;clear Rr;rintro v5 ⟨JP,H5,V5,ML,KP,Zj⟩ Rr;replace JU:=(aj.c0 KP);replace J0:=((aj.c1 KP).trans ρw);replace Lt:=(aj.c36 KP);replace Vs:=(aj.c37 KP);have q:=ae ML;have J8:=λd os=>(aj.c0 (KP.below (ZW _ d os)));have Kq:=λd os=>((aj.c1 (KP.below (ZW _ d os))).trans ρw);have ND:=λd os=>(aj.c36 (KP.below (ZW _ d os)));have qX'3:=λd os=>(aj.c37 (KP.below (ZW _ d os)));refine Ws 19 (gC ?_);refine bB (θ6 H5 V5 ML KP Zj JP) ?_;clear Rr;rintro v6 ⟨H6,V6,Oj,LH,Q'6,JT⟩ Rr;replace JU:=(aj.c0 LH);replace J0:=((aj.c1 LH).trans ρw);replace Lt:=(aj.c36 LH);replace Vs:=(aj.c37 LH);clear q J8 Kq ND qX'3 H5 V5 ML KP Zj;go_wp2_with fail;refine(zj a.LV s.lv Te i L2.e L2.t (s.L.map CD.id) _ V6 Rc.2.1 Rc.2.2 (λj hj=>i8 ((Ll.out j hj).imp λc h=>h.1)) (by rw[px];have:=W.len;omega)).mono ?_;rintro e v7 ⟨rfl,TT⟩;have H7:=H6.lvTo Qc.out TT;obtain⟨fp7,TA,hfp7,kx⟩:=TT;have Q'7:=Q'6.ko kx (λy hy f=>by have h1:=Ot.out y hy;rw[Qc.out y f] at h1;cases h1);have Si:=Oj.ko kx (λf=>by rw[Qc.out _ f] at oS;cases oS);have Om:=LH.ko kx (λf=>by rw[Qc.out _ f] at ob;cases ob);have z6:=JT.size;have Yx:∀x,x<w.heap.size->o.more v6 .lv x=o x:=λx hx=>aV.more_lt ρa;have J7:=JT.trans kx τC;have z7:=kx.size;clear kx H6 V6;have lX0:=aj.c0 Om;have lX1:=(aj.c1 Om).trans ρw;have Ss:=Si.r;obtain⟨n,hn⟩:=Nq ((s.e i).q.length);go_wp2_with fail;refine(tF Q _ _ _ Pw _ Q'7).mono ?_;rintro e u ⟨rfl,rfl⟩;rw[hn];by_cases h0:n=0
  ·subst h0;have Ng:(s.e i).q=[]:=List.length_eq_zero_iff.1 hn;have he:s.due i len false={(s.setE i {s.e i with du:=L2}) with lv:=aO (aO s.lv i (some (L2.e,L2.t))) i none}:=uv PH.out κw Ng;change Hid _ at Ng he;go_wp2_with fail;have TA7:=TA;clear TA;refine bK (θ5 J7 H7 TA7 Si Om) ?_;clear Rr Ss;rintro v8 ⟨Ka,H8,TA8,QO,Oo⟩ Rr;replace JU:=(aj.c0 Oo);replace J0:=((aj.c1 Oo).trans ρw);have q:=ae QO;have J8:=λd os=>(aj.c0 (Oo.below (ZW _ d os)));have Kq:=λd os=>((aj.c1 (Oo.below (ZW _ d os))).trans ρw);refine Ws 9 (gC ?_);refine bB (θ5 H8 TA8 QO Oo Ka) ?_;clear Rr;rintro v9 ⟨H9,TA9,S'9,X'9,Km⟩ Rr;replace JU:=(aj.c0 X'9);replace J0:=((aj.c1 X'9).trans ρw);clear q J8 Kq H8 TA8 QO Oo;go_wp2_with fail;refine(tU a.LV _ fp7 i (i::s.L.map CD.id) _ TA9 (λj hj=>by by_cases e:j=i;(· rw[e];simp);(· refine sA _ (i8 ((Ll.out j ?_).imp λc h=>h.1));unfold aO at hj;rw[ZI e] at hj;exact hj)) (by simp;have:=W.len;omega)).mono ?_;rintro e N0 ⟨er,rfl,TT⟩;have hf7:∀x,fp7 x->o.more v6 .lv x=.lv:=λx hx=>by
    rcases Nat.lt_or_ge x v6 with hl|hl
    ·rw[aV.more_lt hl];rcases hfp7 x hx with g|g;exact Qc.out x g;omega
    ·exact aV.more_ge hl
   have TO:=H9.lvTo hf7 TT;obtain⟨fp10,_,_,kx⟩:=TT;have z9:=Km.size;have Kg:=Km.trans kx κl;go_wp2_with fail;go_end0;rw[he.out];exact⟨rfl,_,TO.below ρE,λx hx=>(aV.more_lt ρa).trans (Yx x hx),Kg.step0 ρE⟩
  ·have JL:((n:Int)==0)=false:=by rw[ZN];omega
   have he:s.due i len false={(s.setE i {s.e i with du:=L2}) with lv:=aO s.lv i (some (L2.e,L2.t))}:=pV PH.out κw (λe=>by rw[e] at hn;simp at hn;omega);change Hid _ at he hn;go_wp2_with fail;go_end0;rw[he.out];exact⟨rfl,_,H7.below ρE,Yx,J7.step0 ρE⟩
 ·simp only[if_true] at MD;have MD:=ag MD;go_wp2_with fail;refine bK (θ4 I' KC KW VK) ?_;clear Rr;rintro v2 ⟨JE,LJ,K6,TQ⟩ Rr;replace JU:=(aj.c0 K6);have q:=ae LJ;have J8:=λd os=>(aj.c0 (K6.below (ZW _ d os)));refine Ws 14 (nY ?_)
  repeat (first
   | (refine aj.qdu K6 (.tmp 18) ρs ρs ρs ?_;(try simp only[Act.put,List.setIfInBounds_toArray,List.set_cons_succ,List.set_cons_zero]))
   | (go_big_quiet_step ((first
    | (go_at_call 220;(with_reducible exact bZ (yp Q _ _ _ Pw _ (TQ.below (ZW _ _ _)) MF hhd.out)))
    | (go_at_call 219;(with_reducible exact bZ (zD _ L2 len MF _ okd JS rhd MD.out)))))))
  refine bB (θ4 LJ K6 TQ JE) ?_;clear Rr;rintro v3 ⟨LP,K7,XV,JI⟩ Rr;replace JU:=(aj.c0 K7);clear q J8 LJ K6 TQ;refine aj.sdu K7 L2 (.tmp 28) (.tmp 26) ρs ρs ρs ρs ?_;intro v4 K8 kx zx;have N5:=LP.ko kx τR;have WF:=XV.ko kx κs;have JJ:KO (λy=>y=b) w v4:=JI.trans kx σh;replace Rr:=N5.r;replace JU:=(aj.c0 K8);replace J0:=((aj.c1 K8).trans ρw);replace Lt:=(aj.c36 K8);replace Vs:=(aj.c37 K8);have H4:=H.entTo hc hb (x:={s.e i with du:=L2}) Kc.out JJ τo ⟨K8,ob,by unfold dT;rw[ZP RG];exact⟨Q,Pw,rfl,WF,Ot.out⟩,⟨Rc.1,Rc.2.1,Rc.2.2,ok.out.2.2.2⟩⟩;have YH:KO (λx=>(o x).mine) w v4:=JJ.mono σN;have V4:=V'.ko JJ σ5;clear kx zx JJ X';have JJ:=YH;clear YH;go_wp2_with fail;refine bK (θ6 JJ H4 V4 N5 K8 WF) ?_;clear Rr;rintro v5 ⟨JP,H5,V5,ML,KP,Zj⟩ Rr;replace JU:=(aj.c0 KP);replace J0:=((aj.c1 KP).trans ρw);replace Lt:=(aj.c36 KP);replace Vs:=(aj.c37 KP);have q:=ae ML;have J8:=λd os=>(aj.c0 (KP.below (ZW _ d os)));have Kq:=λd os=>((aj.c1 (KP.below (ZW _ d os))).trans ρw);have ND:=λd os=>(aj.c36 (KP.below (ZW _ d os)));have qX'3:=λd os=>(aj.c37 (KP.below (ZW _ d os)));refine Ws 19 (gC ?_);refine bB (θ6 H5 V5 ML KP Zj JP) ?_;clear Rr;rintro v6 ⟨H6,V6,Oj,LH,Q'6,JT⟩ Rr;replace JU:=(aj.c0 LH);replace J0:=((aj.c1 LH).trans ρw);replace Lt:=(aj.c36 LH);replace Vs:=(aj.c37 LH);clear q J8 Kq ND qX'3 H5 V5 ML KP Zj;go_wp2_with fail;refine(zj a.LV s.lv Te i L2.e L2.t (s.L.map CD.id) _ V6 Rc.2.1 Rc.2.2 (λj hj=>i8 ((Ll.out j hj).imp λc h=>h.1)) (by rw[px];have:=W.len;omega)).mono ?_;rintro e v7 ⟨rfl,TT⟩;have H7:=H6.lvTo Qc.out TT;obtain⟨fp7,TA,hfp7,kx⟩:=TT;have Q'7:=Q'6.ko kx (λy hy f=>by have h1:=Ot.out y hy;rw[Qc.out y f] at h1;cases h1);have Si:=Oj.ko kx (λf=>by rw[Qc.out _ f] at oS;cases oS);have Om:=LH.ko kx (λf=>by rw[Qc.out _ f] at ob;cases ob);have z6:=JT.size;have Yx:∀x,x<w.heap.size->o.more v6 .lv x=o x:=λx hx=>aV.more_lt ρa;have J7:=JT.trans kx τC;have z7:=kx.size;clear kx H6 V6;have lX0:=aj.c0 Om;have lX1:=(aj.c1 Om).trans ρw;have Ss:=Si.r;obtain⟨n,hn⟩:=Nq ((s.e i).q.length);go_wp2_with fail;refine(tF Q _ _ _ Pw _ Q'7).mono ?_;rintro e u ⟨rfl,rfl⟩;rw[hn];by_cases h0:n=0
  ·subst h0;have Ng:(s.e i).q=[]:=List.length_eq_zero_iff.1 hn;have he:s.due i len true={(s.setE i {s.e i with du:=L2}) with lv:=aO (aO s.lv i (some (L2.e,L2.t))) i none}:=uv PH.out κw Ng;change Hid _ at Ng he;go_wp2_with fail;have TA7:=TA;clear TA;refine bK (θ5 J7 H7 TA7 Si Om) ?_;clear Rr Ss;rintro v8 ⟨Ka,H8,TA8,QO,Oo⟩ Rr;replace JU:=(aj.c0 Oo);replace J0:=((aj.c1 Oo).trans ρw);have q:=ae QO;have J8:=λd os=>(aj.c0 (Oo.below (ZW _ d os)));have Kq:=λd os=>((aj.c1 (Oo.below (ZW _ d os))).trans ρw);refine Ws 9 (gC ?_);refine bB (θ5 H8 TA8 QO Oo Ka) ?_;clear Rr;rintro v9 ⟨H9,TA9,S'9,X'9,Km⟩ Rr;replace JU:=(aj.c0 X'9);replace J0:=((aj.c1 X'9).trans ρw);clear q J8 Kq H8 TA8 QO Oo;go_wp2_with fail;refine(tU a.LV _ fp7 i (i::s.L.map CD.id) _ TA9 (λj hj=>by by_cases e:j=i;(· rw[e];simp);(· refine sA _ (i8 ((Ll.out j ?_).imp λc h=>h.1));unfold aO at hj;rw[ZI e] at hj;exact hj)) (by simp;have:=W.len;omega)).mono ?_;rintro e N0 ⟨er,rfl,TT⟩;have hf7:∀x,fp7 x->o.more v6 .lv x=.lv:=λx hx=>by
    rcases Nat.lt_or_ge x v6 with hl|hl
    ·rw[aV.more_lt hl];rcases hfp7 x hx with g|g;exact Qc.out x g;omega
    ·exact aV.more_ge hl
   have TO:=H9.lvTo hf7 TT;obtain⟨fp10,_,_,kx⟩:=TT;have z9:=Km.size;have Kg:=Km.trans kx κl;go_wp2_with fail;go_end0;rw[he.out];exact⟨rfl,_,TO.below ρE,λx hx=>(aV.more_lt ρa).trans (Yx x hx),Kg.step0 ρE⟩
  ·have JL:((n:Int)==0)=false:=by rw[ZN];omega
   have he:s.due i len true={(s.setE i {s.e i with du:=L2}) with lv:=aO s.lv i (some (L2.e,L2.t))}:=pV PH.out κw (λe=>by rw[e] at hn;simp at hn;omega);change Hid _ at he hn;go_wp2_with fail;go_end0;rw[he.out];exact⟨rfl,_,H7.below ρE,Yx,J7.step0 ρE⟩
end Go.Proofs.YtfdlemkplejdnaaGreat
