/- WholeBehind, part 21. Conditions: none. -/
import Derived.Test.YtfdlemkplejdnaaGreatA13
import Derived.Test.YtfdlemkplejdnaaGreatA15
import Derived.Test.YtfdlemkplejdnaaGreatA16
import Derived.Test.YtfdlemkplejdnaaGreatA17
namespace Go.Proofs.YtfdlemkplejdnaaGreat
open Go.RowKit Go.Sort
open Value renaming int->ι,pointer->ψ,slice->ζ,tuple->χ,agg->φ,map->μ,bool->β
open IntKind renaming u64->υ,i64->ε,u16->ω
open Ending renaming returned->ϰ
open Go.Proofs.Tryz renaming prog->Ψ,underlying3->Θ,underlying147->Δ,underlying152->Γ,underlying202->Φ,underlying39->Ξ,underlying207->Ω
open Go renaming World->ϖ,Value->ϗ
set_option linter.unusedVariables false
set_option linter.unusedSimpArgs false
set_option maxHeartbeats 8000000
set_option maxRecDepth 100000
def GY:LF:=⟨false,⟨⟨0,0,0⟩,⟨0,0,0⟩,false⟩,⟨⟨0,0,0⟩,⟨0,0,0⟩,false⟩,0,0,0⟩
structure EN where
 (c:CD)
 (tot:Int)
 (du:LF)
 (sh cp:CH)
 (q:List PK)
def dT (c:CD):EN:=⟨c,0,GY,CH.zero,CH.zero,[]⟩
structure SS where
 (T Lm:Int)
 (L:List CD)
 (e:Int->EN)
 (A:AS)
 (lv:TM)
 (kd:Int->TM)
 (clk acc:Int)
def mA:TM:=λ_=>none
open Classical in
noncomputable def fitT (m:TM):Int:=if h:∃v,ic m Mc v then h.choose else Mc
open Classical in
noncomputable def ct (m:TM):Int:=if h:∃v,iT m v true then h.choose else 0
theorem sj {m:TM} {d v u:Int} (h:ic m d v)(k:ic m d u):v=u:=ξ6
theorem n7 {m:TM} {v:Int} (h:ic m Mc v):fitT m=v:=by unfold fitT;rw[dif_pos ⟨v,h⟩];exact sj (Classical.choose_spec (⟨v,h⟩:∃v,ic m Mc v)) h
theorem oJ {m:TM} {v:Int} {ok:Bool} (h:iT m v ok):ct m=v:=by
 cases ok with
 | false=>obtain⟨h1,h2⟩:=h;unfold ct;rw[dif_neg (λ⟨u,⟨j,q,hq,_⟩,_⟩=>by rw[h2 j] at hq;cases hq)];exact h1.symm
 | true=>
  unfold ct;rw[dif_pos ⟨v,h⟩];have one:∀u,iT m u true->u=v:=by rintro u ⟨⟨j',q',RP,k1⟩,k2⟩;obtain⟨⟨j,q,hq,h1⟩,h2⟩:=h;have:=h2 j' q' RP;have:=k2 j q hq;omega
  exact one _ (Classical.choose_spec (⟨v,h⟩:∃v,iT m v true))
namespace SS
def real (c:CD):Bool:=cW (Go.Proofs.YtfdlemkplejdnaaGreat.kd c.r0 c.r1 c.r2)
noncomputable def fit (s:SS) (i:Int):Int:=if (s.e i).c.lf=true\/s.A.is i=false then (s.e i).cp.t else max (s.e i).cp.t (fitT (s.kd i))
noncomputable def settle1 (s:SS) (i:Int):SS:=if s.A.is i=true then {s with kd:=aw s.kd (s.e i).c.par (aJ (s.kd (s.e i).c.par) i (some ((s.e i).sh.t,s.fit i)))} else s
noncomputable def settle (s:SS) (xs:List Int):SS:=xs.foldl settle1 s
def setE (s:SS)(i:Int)(x:EN):SS:={s with e:=aw s.e i x}
noncomputable def wake1 (now:Int) (s:SS) (i:Int):SS:=
 s.setE i {s.e i with sh:=(s.e i).sh.wake (s.e i).c.l0 (s.e i).c.l1 (s.e i).c.l2 (ct (s.kd (s.e i).c.par)) (s.e i).tot,cp:=(s.e i).cp.capped (s.e i).c.u0 (s.e i).c.u1 (s.e i).c.u2 now (s.e i).tot}
def duesTo (s:SS)(i:Int)(l:LF):SS:={s.setE i {s.e i with du:=l} with lv:=aJ s.lv i (some (l.e,l.t))}
noncomputable def wakeS (s:SS) (now:Int) (i:Int) (up:List Int):SS:=
 settle ((aX s.A.K up).1.foldl (wake1 now) {s with A:=⟨aw s.A.on i true,(aX s.A.K up).2⟩}) up
noncomputable def wake (s:SS) (now:Int) (i h:Int) (up:List Int):SS:=
 let s1:=if real (s.e i).c then s.duesTo i (((s.e i).du.woke (s.e i).c.r0 (s.e i).c.r1 (s.e i).c.r2 now).headed h) else s
 if dz (s.e i).c then s1.wakeS now i up else s1
def told (s:SS)(now:Int):Bool:=decide (s.clk<=now) && decide (now<=4611686018427387904)
noncomputable def put (s:SS) (now i:Int) (p:PK) (up:List Int):Int × SS:=
 if s.told now=false then (27,s) else
 let s:={s with clk:=now}
 match fc s.L i with
 | none=>(23,s)
 | some c=>
  if c.lf=false then (29,s) else
  if p.len<1\/s.Lm<p.len then (26,s) else
  if 1099511627776<s.acc+p.len then (28,s) else
  if c.by_ - aE (s.e i).q<p.len\/(s.e i).q.length=c.pk.toNat then (30,s) else
  let s1:={s.setE i {s.e i with q:=(s.e i).q++[p]} with acc:=s.acc+p.len}
  if (s.e i).q=[] then (0,s1.wake now i p.len up) else (0,s1)
inductive Chain (s:SS) (now:Int):Int->Option Int->Prop
 | none {i:Int}:jW (s.kd i) (min now Mb) 0 false->Chain s now i none
 | leaf {i j:Int}:jW (s.kd i) (min now Mb) j true->(s.e j).c.lf=true->Chain s now i (some j)
 | inner {i j:Int} {r:Option Int}:jW (s.kd i) (min now Mb) j true->(s.e j).c.lf=false->Chain s now j r->Chain s now i r
def Choose (s:SS)(now:Int)(r:Option (Int × Bool)):Prop:=
 (∃i,tG s.lv (min now Mb) i true/\r=some (i,true))\/tG s.lv (min now Mb) 0 false/\((∃i,Chain s now 0 (some i)/\r=some (i,false))\/(Chain s now 0 none/\r=none))
def take1 (len:Int)(s:SS)(i:Int):SS:=
 s.setE i {s.e i with tot:=(s.e i).tot+len,sh:=(s.e i).sh.took ((s.e i).tot+len),cp:=(s.e i).cp.fit ((s.e i).tot+len)}
def due (s:SS)(i len:Int)(QI:Bool):SS:=
 if real (s.e i).c then
  let l:=if QI then (s.e i).du.took len (aZ (s.e i).q) else (s.e i).du.headed (aZ (s.e i).q)
  let s1:=s.duesTo i l
  if (s.e i).q=[] then {s1 with lv:=aJ s1.lv i none} else s1
 else s
open Classical in
noncomputable def sleep1 (s:SS) (i:Int):SS:=
 let p:=(s.e i).c.par
 {s with kd:=aw s.kd p (aJ (s.kd p) i none),e:=if ∀j,aJ (s.kd p) i none j=none then (λj=>if (fc s.L j).isSome=true/\(s.e j).c.par=p then {s.e j with sh:=CH.zero} else s.e j) else s.e}
noncomputable def sleep (s:SS) (i:Int) (up:List Int):SS:=if dz (s.e i).c=true/\s.A.is i=true then (aH s.A.K up).1.foldl sleep1 {s with A:=⟨aw s.A.on i false,(aH s.A.K up).2⟩} else s
noncomputable def take (s:SS) (now i:Int) (QI:Bool) (up:List Int):SS:=
 let s0:={s with clk:=now}
 let len:=aZ (s.e i).q
 let s1:=up.foldl (take1 len) (s0.setE i {s.e i with q:=(s.e i).q.tail})
 let s2:=s1.due i len QI
 let s3:=if (s2.e i).q=[] then s2.sleep i up else s2
 s3.settle up
end SS
abbrev nX (x:EN)(qv:ϗ):Array ϗ:=#[qv,ι ε x.c.id,ι ε x.c.par,β x.c.lf,ι υ x.c.r0,ι υ x.c.r1,ι υ x.c.r2,ι υ x.c.l0,ι υ x.c.l1,ι υ x.c.l2,ι υ x.c.u0,ι υ x.c.u1,ι υ x.c.u2,ι ε x.c.pk,ι ε x.c.by_,ι υ x.tot,β x.du.has,ι υ x.du.D.f.X,ι υ (hi (x.du.D.f.Y)),ι υ (lo (x.du.D.f.Y)),ι υ x.du.D.f.M,ι υ x.du.D.t.X,ι υ (hi (x.du.D.t.Y)),ι υ (lo (x.du.D.t.Y)),ι υ x.du.D.t.M,β x.du.D.b,ι υ x.du.E.f.X,ι υ (hi (x.du.E.f.Y)),ι υ (lo (x.du.E.f.Y)),ι υ x.du.E.f.M,ι υ x.du.E.t.X,ι υ (hi (x.du.E.t.Y)),ι υ (lo (x.du.E.t.Y)),ι υ x.du.E.t.M,β x.du.E.b,ι υ x.du.p,ι υ x.du.e,ι υ x.du.t,β x.sh.has,ι υ x.sh.r.f.X,ι υ (hi (x.sh.r.f.Y)),ι υ (lo (x.sh.r.f.Y)),ι υ x.sh.r.f.M,ι υ x.sh.r.t.X,ι υ (hi (x.sh.r.t.Y)),ι υ (lo (x.sh.r.t.Y)),ι υ x.sh.r.t.M,β x.sh.r.b,ι υ x.sh.t,β x.cp.has,ι υ x.cp.r.f.X,ι υ (hi (x.cp.r.f.Y)),ι υ (lo (x.cp.r.f.Y)),ι υ x.cp.r.f.M,ι υ x.cp.r.t.X,ι υ (hi (x.cp.r.t.Y)),ι υ (lo (x.cp.r.t.Y)),ι υ x.cp.r.t.M,β x.cp.r.b,ι υ x.cp.t]
def EN.ok (x:EN):Prop:=x.du.ok/\(0<=x.du.e/\x.du.e<=Ma)/\(0<=x.du.t/\x.du.t<=Ma)/\x.sh.ok/\(0<=x.sh.t/\x.sh.t<=Ma)/\x.cp.ok/\(0<=x.cp.t/\x.cp.t<=Ma)/\(0<=x.tot/\x.tot<=2199023255552)
def dQ (o:aT)(w:ϖ)(i:Int)(x:EN)(qv:ϗ):Prop:=if x.c.lf=true then ∃Q fp,qv=ψ (some ⟨Q,0,none⟩)/\aW w Q x.c.by_ x.c.pk.toNat x.q fp/\∀k,fp k->o k=.qu i else qv=Kp
def gM (o:aT)(w:ϖ)(i:Int)(b:Nat)(qv:ϗ)(x:EN):Prop:=ah w b (nX x qv) 244/\o b=.en i/\dQ o w i x qv/\x.ok
theorem dQ.ko {o:aT} {w v:ϖ} {i:Int} {x:EN} {qv:ϗ} {F:Nat->Prop} (h:dQ o w i x qv)(k:KO F w v)(hF:∀b,o b=.qu i->¬F b):dQ o v i x qv:=by
 unfold dQ at h ⊢;split
 ·rename_i hl;rw[ZP hl] at h;obtain⟨Q,fp,h1,h2,h3⟩:=h;exact⟨Q,fp,h1,h2.ko k (λb hb=>hF b (h3 b hb)),h3⟩
 ·rename_i hl;rw[ZI hl] at h;exact h
theorem dQ.below {o:aT} {w v:ϖ} {i:Int} {x:EN} {qv:ϗ} (h:dQ o w i x qv)(k:Below w w v):dQ o v i x qv:=h.ko (KO.of_below (F:=λ_=>False) k) (λ_ _ f=>f)
instance {o w i x qv}:Mv (dQ o w i x qv) w (λv'=>dQ o v' i x qv):=⟨λk h=>dQ.below h k⟩
theorem dQ.own {o o':aT} {w:ϖ} {i:Int} {x:EN} {qv:ϗ} (h:dQ o w i x qv)(e:∀b,b<w.heap.size->o' b=o b):dQ o' w i x qv:=by
 unfold dQ at h ⊢;split
 ·rename_i hl;rw[ZP hl] at h;obtain⟨Q,fp,h1,h2,h3⟩:=h;refine⟨Q,fp,h1,h2,λb hb=>(e b ?_).trans (h3 b hb)⟩;obtain⟨R,S,f,ps,k0,k1,k2,k3,k4,k5,_,_,_,_,_,_,_,_,h9⟩:=h2;exact h9 b hb
 ·rename_i hl;rw[ZI hl] at h;exact h
theorem gM.ko {o:aT} {w v:ϖ} {i:Int} {b:Nat} {qv:ϗ} {x:EN} {F:Nat->Prop} (h:gM o w i b qv x)(k:KO F w v)(hF:∀b,o b=.en i\/o b=.qu i->¬F b):gM o v i b qv x:=⟨h.1.ko k (hF b (.inl h.2.1)),h.2.1,h.2.2.1.ko k (λb hb=>hF b (.inr hb)),h.2.2.2⟩
theorem gM.own {o o':aT} {w:ϖ} {i:Int} {b:Nat} {qv:ϗ} {x:EN} (h:gM o w i b qv x)(e:∀b,b<w.heap.size->o' b=o b):gM o' w i b qv x:=⟨h.1,(e b h.1.size).trans h.2.1,h.2.2.1.own e,h.2.2.2⟩
def bu (J:Int->Prop)(o:aT)(w:ϖ)(L:List CD)(e:Int->EN)(LB:List (Int × ϗ)):Prop:=∃(P:Int->Nat)(V:Int->ϗ),∀i,match fc L i with
 | none=>lk i LB=none
 | some c=>lk i LB=some (ψ (some ⟨P i,0,none⟩))/\(e i).c=c/\(¬J i->gM o w i (P i) (V i) (e i))
abbrev bO (o:aT)(w:ϖ)(L:List CD)(e:Int->EN)(LB:List (Int × ϗ)):Prop:=bu (λ_=>False) o w L e LB
section
variable {J:Int->Prop} {o o':aT} {w v:ϖ} {L:List CD} {e:Int->EN} {LB:List (Int × ϗ)} {F:Nat->Prop} {i:Int} {c:CD}
theorem bu.ko (h:bu J o w L e LB)(k:KO F w v)(hF:∀b i,¬J i->(o b=.en i\/o b=.qu i)->¬F b):bu J o v L e LB:=by
 obtain⟨P,V,h3⟩:=h;refine⟨P,V,λi=>?_⟩;have:=h3 i;split<;>rename_i hc<;>rw[hc] at this
 ·exact this
 ·exact⟨this.1,this.2.1,λhJ=>(this.2.2 hJ).ko k (λb hb=>hF b i hJ hb)⟩
theorem bu.below (h:bu J o w L e LB)(k:Below w w v):bu J o v L e LB:=h.ko (KO.of_below (F:=λ_=>False) k) (λ_ _ _ _ f=>f)
instance {J o w L e LB}:Mv (bu J o w L e LB) w (λv'=>bu J o v' L e LB):=⟨λk h=>bu.below h k⟩
theorem bu.own (h:bu J o w L e LB)(he:∀b,b<w.heap.size->o' b=o b):bu J o' w L e LB:=by
 obtain⟨P,V,h3⟩:=h;refine⟨P,V,λi=>?_⟩;have:=h3 i;split<;>rename_i hc<;>rw[hc] at this
 ·exact this
 ·exact⟨this.1,this.2.1,λhJ=>(this.2.2 hJ).own he⟩
theorem bu.out (h:bO o w L e LB)(hc:fc L i=some c):∃b qv,lk i LB=some (ψ (some ⟨b,0,none⟩))/\(e i).c=c/\gM o w i b qv (e i)/\bu (λj=>j=i) o w L e LB:=by
 obtain⟨P,V,h3⟩:=h;have hi:=h3 i;rw[hc] at hi;refine⟨P i,V i,hi.1,hi.2.1,hi.2.2 (λf=>f),P,V,λj=>?_⟩;have:=h3 j;split<;>rename_i hj<;>rw[hj] at this
 ·exact this
 ·exact⟨this.1,this.2.1,λ_=>this.2.2 (λf=>f)⟩
theorem bu.back {b:Nat} {qv:ϗ} {x:EN} (h:bu (λj=>j=i) o w L e LB)(hc:fc L i=some c)(hb:lk i LB=some (ψ b))(hx:x.c=c)(k:gM o w i b qv x):bO o w L (aw e i x) LB:=by
 obtain⟨P,V,h3⟩:=h;refine⟨λj=>if j=i then b else P j,λj=>if j=i then qv else V j,λj=>?_⟩;have kj:=h3 j;by_cases e1:j=i
 ·subst e1;rw[hc];unfold aw;simp only[ZP];exact⟨hb,hx,λ_=>k⟩
 ·split<;>rename_i hj<;>rw[hj] at kj
  ·exact kj
  ·unfold aw;simp only[ZI e1];exact⟨kj.1,kj.2.1,λ_=>kj.2.2 e1⟩
end
def bV (L:List CD)(p:Int):Bool:=decide (p=0) || match fc L p with
 | some c=>!c.lf
 | none=>false
def cU (J:Int->Prop)(o:aT)(w:ϖ)(L:List CD)(kd:Int->TM)(LB:List (Int × ϗ)):Prop:=∃(P:Int->Nat),∀p,bV L p=true->lk p LB=some (ψ (some ⟨P p,0,none⟩))/\(¬J p->∃fp,aQ 211 w (P p) (kd p) fp/\∀x,fp x->o x=.kd p)
abbrev dA (o:aT)(w:ϖ)(L:List CD)(kd:Int->TM)(LB:List (Int × ϗ)):Prop:=cU (λ_=>False) o w L kd LB
theorem aQ.lt {ty:TypeId} {w:ϖ} {B:Nat} {m:TM} {fp:Nat->Prop} (h:aQ ty w B m fp) {x:Nat} (hx:fp x):x<w:=by obtain⟨T,M,t,L,h1,h2,h3,h4,h5,h6,h7,h8,h9⟩:=h;exact h9 x hx
section
variable {J:Int->Prop} {o o':aT} {w v:ϖ} {L:List CD} {kd:Int->TM} {LB:List (Int × ϗ)} {F:Nat->Prop} {p:Int}
theorem cU.ko (h:cU J o w L kd LB)(k:KO F w v)(hF:∀b p,¬J p->o b=.kd p->¬F b):cU J o v L kd LB:=by obtain⟨P,h3⟩:=h;refine⟨P,λp hp=>⟨(h3 p hp).1,λhJ=>?_⟩⟩;obtain⟨fp,g1,g2⟩:=(h3 p hp).2 hJ;exact⟨fp,g1.ko k (λx hx=>hF x p hJ (g2 x hx)),g2⟩
theorem cU.below (h:cU J o w L kd LB)(k:Below w w v):cU J o v L kd LB:=h.ko (KO.of_below (F:=λ_=>False) k) (λ_ _ _ _ f=>f)
instance {J o w L kd LB}:Mv (cU J o w L kd LB) w (λv'=>cU J o v' L kd LB):=⟨λk h=>cU.below h k⟩
theorem cU.own (h:cU J o w L kd LB)(he:∀b,b<w.heap.size->o' b=o b):cU J o' w L kd LB:=by obtain⟨P,h3⟩:=h;refine⟨P,λp hp=>⟨(h3 p hp).1,λhJ=>?_⟩⟩;obtain⟨fp,g1,g2⟩:=(h3 p hp).2 hJ;exact⟨fp,g1,λx hx=>(he x (g1.lt hx)).trans (g2 x hx)⟩
theorem cU.out (h:dA o w L kd LB)(hp:bV L p=true):∃b fp,lk p LB=some (ψ (some ⟨b,0,none⟩))/\aQ 211 w b (kd p) fp/\(∀x,fp x->o x=.kd p)/\cU (λj=>j=p) o w L kd LB:=by obtain⟨P,h3⟩:=h;obtain⟨g1,g2⟩:=h3 p hp;obtain⟨fp,g3,g4⟩:=g2 (λf=>f);exact⟨P p,fp,g1,g3,g4,P,λq hq=>⟨(h3 q hq).1,λ_=>(h3 q hq).2 (λf=>f)⟩⟩
theorem cU.back {b:Nat} {m:TM} {fp:Nat->Prop} (h:cU (λj=>j=p) o w L kd LB)(hb:lk p LB=some (ψ b))(t:aQ 211 w b m fp)(hf:∀x,fp x->o x=.kd p):dA o w L (aw kd p m) LB:=by
 obtain⟨P,h3⟩:=h;refine⟨λj=>if j=p then b else P j,λq hq=>?_⟩;by_cases e1:q=p
 ·subst e1;unfold aw;simp only[ZP];exact⟨hb,λ_=>⟨fp,t,hf⟩⟩
 ·obtain⟨j1,j2⟩:=h3 q hq;unfold aw;simp only[ZI e1];exact⟨j1,λ_=>j2 e1⟩
end
def eB (o:aT)(w:ϖ)(LV:Nat)(m:TM):Prop:=∃fp,aQ 209 w LV m fp/\∀x,fp x->o x=.lv
theorem eB.ko {o:aT} {w v:ϖ} {LV:Nat} {m:TM} {F:Nat->Prop} (h:eB o w LV m)(k:KO F w v)(hF:∀b,o b=.lv->¬F b):eB o v LV m:=by obtain⟨fp,h1,h2⟩:=h;exact⟨fp,h1.ko k (λx hx=>hF x (h2 x hx)),h2⟩
theorem eB.below {o:aT} {w v:ϖ} {LV:Nat} {m:TM} (h:eB o w LV m)(k:Below w w v):eB o v LV m:=h.ko (KO.of_below (F:=λ_=>False) k) (λ_ _ f=>f)
instance {o w LV m}:Mv (eB o w LV m) w (λv'=>eB o v' LV m):=⟨λk h=>eB.below h k⟩
theorem eB.own {o o':aT} {w:ϖ} {LV:Nat} {m:TM} (h:eB o w LV m)(e:∀b,b<w.heap.size->o' b=o b):eB o' w LV m:=by obtain⟨fp,h1,h2⟩:=h;exact⟨fp,h1,λx hx=>(e x (h1.lt hx)).trans (h2 x hx)⟩
theorem eB.to {o:aT} {w w':ϖ} {LV:Nat} {m m':TM} {fp:Nat->Prop} (h1:∀x,fp x->o x=.lv)(h:eZ 209 w w' LV m' fp):eB (λx=>if x<w.heap.size then o x else .lv) w' LV m':=by
 obtain⟨MK,h2,h3,h4⟩:=h;refine⟨MK,h2,λx hx=>?_⟩;simp only[];split
 ·rename_i IJ;rcases h3 x hx with g|g
  ·exact h1 x g
  ·omega
 ·rfl
structure Ad where
 (S T M BY ON A O C LV KM:Nat)
 (LB LM:List (Int × ϗ))
def ar (o:aT)(w:ϖ)(a:Ad)(s:SS):Prop:=ah w a.S #[ι ε s.T,ι ε s.Lm,a.T,.map (some a.BY),a.ON,a.LV,.map (some a.KM),s.clk,s.acc] 155/\
 aF w a.T a.M s.L/\aA w a.BY a.LB/\bO o w s.L s.e a.LB/\cK o w a.ON a.A a.O a.C s.L s.A/\eB o w a.LV s.lv/\aA w a.KM a.LM/\dA o w s.L s.kd a.LM/\o a.S=.sy/\o a.T=.tr/\o a.M=.tr/\o a.BY=.by_/\o a.KM=.km
theorem cK.ko {o:aT} {w v:ϖ} {B A O C:Nat} {L:List CD} {S:AS} {F:Nat->Prop} (h:cK o w B A O C L S)(k:KO F w v)(hF:∀x,(o x).act\/o x=.ac\/o x=.ab->¬F x):cK o v B A O C L S:=by obtain⟨B',⟨LB,A',hA⟩,⟨LO,O',hO⟩,⟨LK,C',KF⟩,oB,oA,oO,oC⟩:=h;exact⟨B'.ko k (hF _ (.inr (.inl oB))),⟨LB,A'.ko k (hF _ (.inr (.inr oA))),hA⟩,⟨LO,O'.ko k (hF _ (.inl (by rw[oO];trivial))),hO⟩,⟨LK,C'.ko k (hF _ (.inl (by rw[oC];trivial))),KF.ko k (λx l p _ e=>hF x (.inl (by rw[e];trivial)))⟩,oB,oA,oO,oC⟩
theorem cK.below {o:aT} {w v:ϖ} {B A O C:Nat} {L:List CD} {S:AS} (h:cK o w B A O C L S)(k:Below w w v):cK o v B A O C L S:=h.ko (KO.of_below (F:=λ_=>False) k) (λ_ _ f=>f)
instance {o w B A O C L S}:Mv (cK o w B A O C L S) w (λv'=>cK o v' B A O C L S):=⟨λk h=>cK.below h k⟩
theorem cK.own {o o':aT} {w:ϖ} {B A O C:Nat} {L:List CD} {S:AS} (h:cK o w B A O C L S)(e:∀x,x<w.heap.size->o' x=o x):cK o' w B A O C L S:=by obtain⟨B',⟨LB,A',hA⟩,⟨LO,O',hO⟩,⟨LK,C',KF⟩,oB,oA,oO,oC⟩:=h;exact⟨B',⟨LB,A',hA⟩,⟨LO,O',hO⟩,⟨LK,C',KF.own e⟩,(e _ B'.size).trans oB,(e _ A'.size).trans oA,(e _ O'.size).trans oO,(e _ C'.size).trans oC⟩
def aj (w:ϖ)(b:Nat)(qv:ϗ)(x:EN):Prop:=ah w b (nX x qv) 244
theorem aj.below {w v:ϖ} {b:Nat} {qv:ϗ} {x:EN} (h:aj w b qv x)(k:Below w w v):aj v b qv x:=ah.below h k (ah.size h)
instance {w b qv x}:Mv (aj w b qv x) w (λv'=>aj v' b qv x):=⟨λk h=>aj.below h k⟩
theorem aj.ko {w v:ϖ} {b:Nat} {qv:ϗ} {x:EN} {F:Nat->Prop} (h:aj w b qv x)(k:KO F w v)(hF:¬F b):aj v b qv x:=ah.ko h k hF
theorem aj.c0 {w:ϖ} {b:Nat} {qv:ϗ} {x:EN} (h:aj w b qv x):w.cell? ⟨b,0,none⟩=some qv:=ah.cell h 0
theorem aj.c1 {w:ϖ} {b:Nat} {qv:ϗ} {x:EN} (h:aj w b qv x):w.cell? ⟨b,1,none⟩=some (ι ε x.c.id):=ah.cell h 1
theorem aj.c2 {w:ϖ} {b:Nat} {qv:ϗ} {x:EN} (h:aj w b qv x):w.cell? ⟨b,2,none⟩=some (ι ε x.c.par):=ah.cell h 2
theorem aj.c3 {w:ϖ} {b:Nat} {qv:ϗ} {x:EN} (h:aj w b qv x):w.cell? ⟨b,3,none⟩=some (β x.c.lf):=ah.cell h 3
theorem aj.c15 {w:ϖ} {b:Nat} {qv:ϗ} {x:EN} (h:aj w b qv x):w.cell? ⟨b,15,none⟩=some (ι υ x.tot):=ah.cell h 15
theorem aj.c36 {w:ϖ} {b:Nat} {qv:ϗ} {x:EN} (h:aj w b qv x):w.cell? ⟨b,36,none⟩=some (ι υ x.du.e):=ah.cell h 36
theorem aj.c37 {w:ϖ} {b:Nat} {qv:ϗ} {x:EN} (h:aj w b qv x):w.cell? ⟨b,37,none⟩=some (ι υ x.du.t):=ah.cell h 37
theorem aj.c48 {w:ϖ} {b:Nat} {qv:ϗ} {x:EN} (h:aj w b qv x):w.cell? ⟨b,48,none⟩=some (ι υ x.sh.t):=ah.cell h 48
theorem aj.c59 {w:ϖ} {b:Nat} {qv:ϗ} {x:EN} (h:aj w b qv x):w.cell? ⟨b,59,none⟩=some (ι υ x.cp.t):=ah.cell h 59
theorem BI (B:Nat)(m:TM)(fp:Nat->Prop)(w:ϖ)(H:aQ 211 w B m fp)(v:Int)(hv:fitT m=v):
  CB 172 #[B] w v:=by
 refine(GD B m fp w H).mono ?_;rintro e w' ⟨u,rfl,hu,hb⟩;exact⟨by rw[<- hv,n7 hu],hb⟩
theorem iK {b b':Nat} (h:some (Value.pointer b)=some (Value.pointer b')):b=b':=by simpa using h
theorem Cf (S:AS)(B A O C:Nat)(o:aT)(L:List CD)(id:Int)(z:Bool)(w:ϖ)(H:cK o w B A O C L S)(hz:S.is id=z):Calls Ψ 124 #[B,ι ε id] w λe w'=>e=ϰ (β z)/\w=w':=by
 rw[<- hz];exact wg S B A O C o L id w H
theorem Ec (o:aT)(a:Ad)(s:SS)(i:Int)(b:Nat)(w:ϖ)(H:ar o w a s)(hc:∃c,fc s.L i=some c)(hb:lk i a.LB=some (ψ b)):
  CB 214 #[a.S,b] w (s.fit i):=by
 obtain⟨c,hc⟩:=hc;obtain⟨S',T',Lk,E',A',V',KV,D',oS,oT,oM,SH,SJ⟩:=H;obtain⟨b2,qv,IW,Jj,X0,-⟩:=E'.out hc;have eb:=iK (hb.symm.trans IW);subst eb;have X':aj w b qv (s.e i):=X0.1;obtain⟨lf,JK⟩:=Nq ((s.e i).c.lf);obtain⟨z,hz⟩:=Nq (s.A.is i);obtain⟨v,hv⟩:=Nq (s.fit i);obtain⟨g,hg⟩:=Nq ((s.e i).cp.t);have MN:c.id=i:=(aM hc).2;rw[hv];unfold SS.fit at hv;rw[JK,hz,hg] at hv;change Hid _ at hv Jj MN JK hg;have Ob:=ag hz;clear hz;rcases lf with _|_
 rotate_left
 ·exact ξf
 rcases z with _|_
 ·exact ξf
 have Mm:bV s.L i=true:=by unfold bV;rw[hc];have:=JK.out;rw[Jj.out] at this;simp[this]
 obtain⟨t,fp,ht,D0,-,-⟩:=D'.out Mm;obtain⟨f,hf⟩:=Nq (fitT (s.kd i));have hr:max g f=v:=by have:=hv.out;simpa [hf] using this
 change Hid _ at hf hr ht;have Rr:=S'.r;have JC:=((am Γ Θ KV i (z:=Kp) ρm).2.trans ρU);have IT:=((aj.c1 X').trans σm);have I5:=((aj.c3 X').trans σV);have Kq:=((aj.c59 X').trans σ3);unfold CB;go_in;go_wp2_with fail;refine bS (θ6 (Ks (λ_=>False) w) S' A' X' KV D0) ?_;clear Rr;rintro v1 ⟨F',JE,Om,JS,Kl,D01⟩ Rr;replace JC:=((am Γ Θ Kl i (z:=Kp) ρm).2.trans ρU);replace IT:=((aj.c1 JS).trans σm);replace I5:=((aj.c3 JS).trans σV);replace Kq:=((aj.c59 JS).trans σ3);have q:=af JE;have Jh:=λd os=>((aj.c1 (JS.below (ZW _ d os))).trans σm);have Jt:=λd os=>((aj.c3 (JS.below (ZW _ d os))).trans σV);have MI:=λd os=>((aj.c59 (JS.below (ZW _ d os))).trans σ3);have Ki:=λd os=>((am Γ Θ (Kl.grow d os) i (z:=Kp) ρm).2.trans ρU);refine Wq ?_
 repeat (go_big_quiet_step ((first
   | (go_at_call 124;(with_reducible exact an (Cf s.A a.ON a.A a.O a.C o s.L i _ _ (Om.below (ZW _ _ _)) Ob.out))))))
 refine bF (θ6 JE Om JS Kl D01 F') ?_;clear Rr;rintro v2 ⟨KJ,OU,JZ,NX,D02,Iz⟩ Rr;replace JC:=((am Γ Θ NX i (z:=Kp) ρm).2.trans ρU);replace IT:=((aj.c1 JZ).trans σm);replace I5:=((aj.c3 JZ).trans σV);replace Kq:=((aj.c59 JZ).trans σ3);clear q Jh Jt MI Ki JE Om JS Kl D01;go_wp2_with fail;refine bS (θ6 Iz KJ OU JZ NX D02) ?_;clear Rr;rintro v3 ⟨ID,KK,Qr,J0,MT,D03⟩ Rr;replace JC:=((am Γ Θ MT i (z:=Kp) ρm).2.trans ρU);replace IT:=((aj.c1 J0).trans σm);replace I5:=((aj.c3 J0).trans σV);replace Kq:=((aj.c59 J0).trans σ3);have q:=af KK;have Jh:=λd os=>((aj.c1 (J0.below (ZW _ d os))).trans σm);have Jt:=λd os=>((aj.c3 (J0.below (ZW _ d os))).trans σV);have MI:=λd os=>((aj.c59 (J0.below (ZW _ d os))).trans σ3);have Ki:=λd os=>((am Γ Θ (MT.grow d os) i (z:=Kp) ρm).2.trans ρU);refine Wq ?_
 repeat (go_big_quiet_step ((first
   | (go_at_call 172;(with_reducible exact bT (BI t (s.kd i) fp _ (D03.below (ZW _ _ _)) f hf.out)))
   | (go_at_call 257;(with_reducible exact bT (uR g f v _ hr.out))))))
 refine bF (θ6 KK Qr J0 MT D03 ID) ?_;clear Rr;rintro v4 ⟨Nh,A'4,J1,VG,D04,IC⟩ Rr;replace JC:=((am Γ Θ VG i (z:=Kp) ρm).2.trans ρU);replace IT:=((aj.c1 J1).trans σm);replace I5:=((aj.c3 J1).trans σV);replace Kq:=((aj.c59 J1).trans σ3);clear q Jh Jt MI Ki KK Qr J0 MT D03;go_wp2;go_ret;exact⟨rfl,(IC.step0 ρE).toBelow⟩
def TG.mine (t:TG):Prop:=t≠.no
def aT.more (o:aT)(n:Nat)(t:TG):aT:=λx=>if x<n then o x else t
theorem aT.more_lt {o:aT} {n:Nat} {t:TG} {x:Nat} (h:x<n):o.more n t x=o x:=ZP h
theorem aT.more_ge {o:aT} {n:Nat} {t:TG} {x:Nat} (h:n<=x):o.more n t x=t:=ZI ρa
section
variable {o o':aT} {w v:ϖ} {a:Ad} {s:SS}
theorem ar.below (h:ar o w a s)(k:Below w w v):ar o v a s:=by obtain⟨S',T',Lk,E',A',V',KV,D',r⟩:=h;exact⟨S'.below k S'.size,T'.below k,Lk.below k,E'.below k,A'.below k,V'.below k,KV.below k,D'.below k,r⟩
instance {o w a s}:Mv (ar o w a s) w (λv'=>ar o v' a s):=⟨λk h=>ar.below h k⟩
theorem ar.own (h:ar o w a s)(e:∀x,x<w.heap.size->o' x=o x):ar o' w a s:=by obtain⟨S',T',Lk,E',A',V',KV,D',h1,h2,h3,h4,h5⟩:=h;exact⟨S',T',Lk,E'.own e,A'.own e,V'.own e,KV,D'.own e,(e _ S'.size).trans h1,(e _ T'.1.size).trans h2,(e _ T'.2.1.size).trans h3,(e _ Lk.size).trans h4,(e _ KV.size).trans h5⟩
theorem ar.ko {F:Nat->Prop} (h:ar o w a s)(k:KO F w v)(hF:∀x,F x->o x=.no):ar o v a s:=by obtain⟨S',T',Lk,E',A',V',KV,D',h1,h2,h3,h4,h5⟩:=h;have n:∀x t,o x=t->t≠.no->¬F x:=λx t e ht f=>ht (e ▸ hF x f);exact⟨S'.ko k (n _ _ h1 ρp),T'.ko k (n _ _ h2 ρp) (n _ _ h3 ρp),Lk.ko k (n _ _ h4 ρp),E'.ko k (λb i _ e f=>by have:=hF b f;rcases e with e|e<;>rw[this] at e<;>cases e),A'.ko k (λx e f=>by have:=hF x f;rw[this] at e;rcases e with e|e|e;exact e;cases e;cases e),V'.ko k (λb e=>n _ _ e ρp),KV.ko k (n _ _ h5 ρp),D'.ko k (λb p _ e=>n _ _ e ρp),h1,h2,h3,h4,h5⟩
theorem ar.kdTo (h:ar o w a s) {p:Int} {t:Nat} {m:TM} {fp:Nat->Prop} (hp:bV s.L p=true)(ht:lk p a.LM=some (ψ t))(hf:∀x,fp x->o x=.kd p)(k:eZ 211 w v t m fp):ar (o.more w (.kd p)) v a {s with kd:=aw s.kd p m}:=by
 have h0:=h.own (o':=o.more w (.kd p)) (λx hx=>aT.more_lt hx);obtain⟨S',T',Lk,E',A',V',KV,D',h1,h2,h3,h4,h5⟩:=h0;obtain⟨MK,k1,k2,k3⟩:=k;obtain⟨t2,fp2,ht2,g1,g2,D2⟩:=D'.out hp;have e2:=iK (ht.symm.trans ht2);subst e2;have sz:∀x,fp x->x<w.heap.size\/w.heap.size<=x:=λx _=>by omega
 have RJ:∀x,fp x->o.more w (.kd p) x=.kd p:=λx hx=>ηU
 have n:∀x q,o.more w (.kd p) x=q->q≠.kd p->¬fp x:=λx q e hq f=>hq (e ▸ RJ x f);have n2:∀x,(o.more w (.kd p) x)≠.kd p->¬fp x:=λx e f=>e (RJ x f);refine⟨S'.ko k3 (n _ _ h1 ρp),T'.ko k3 (n _ _ h2 ρp) (n _ _ h3 ρp),Lk.ko k3 (n _ _ h4 ρp),E'.ko k3 (λb i _ e=>n2 b (by rcases e with e|e<;>rw[e]<;>simp)),A'.ko k3 κp,V'.ko k3 (λb e=>n _ _ e ρp),KV.ko k3 (n _ _ h5 ρp),?_,h1,h2,h3,h4,h5⟩;refine cU.back (D2.ko k3 (λb q hq e=>n _ _ e (by intro g;cases g;exact hq rfl))) ht k1 (λx hx=>?_);rcases Nat.lt_or_ge x w with hl|hl
 ·rw[aT.more_lt hl];rcases k2 x hx with g|g
  ·exact hf x g
  ·omega
 ·exact aT.more_ge hl
theorem ar.lvTo (h:ar o w a s) {m:TM} {fp:Nat->Prop} (hf:∀x,fp x->o x=.lv)(k:eZ 209 w v a.LV m fp):ar (o.more w .lv) v a {s with lv:=m}:=by
 have h0:=h.own (o':=o.more w .lv) (λx hx=>aT.more_lt hx);obtain⟨S',T',Lk,E',A',V',KV,D',h1,h2,h3,h4,h5⟩:=h0;have k0:=k;obtain⟨MK,k1,k2,k3⟩:=k;have RJ:∀x,fp x->o.more w .lv x=.lv:=λx hx=>ηU
 have n2:∀x,(o.more w .lv x)≠.lv->¬fp x:=λx e f=>e (RJ x f);have n:∀x q,o.more w .lv x=q->q≠.lv->¬fp x:=λx q e hq f=>hq (e ▸ RJ x f);exact⟨S'.ko k3 (n _ _ h1 ρp),T'.ko k3 (n _ _ h2 ρp) (n _ _ h3 ρp),Lk.ko k3 (n _ _ h4 ρp),E'.ko k3 (λb i _ e=>n2 b (by rcases e with e|e<;>rw[e]<;>simp)),A'.ko k3 κp,eB.to (m:=m) hf k0,KV.ko k3 (n _ _ h5 ρp),D'.ko k3 (λb p _ e=>n _ _ e ρp),h1,h2,h3,h4,h5⟩
theorem ar.actTo (h:ar o w a s) {S2:AS} (k:cK o' v a.ON a.A a.O a.C s.L S2)(e:∀x,x<w.heap.size->o' x=o x)(k3:KO (λx=>(o x).act) w v):ar o' v a {s with A:=S2}:=by have h0:=h.own e;obtain⟨S',T',Lk,E',A',V',KV,D',h1,h2,h3,h4,h5⟩:=h0;have k4:KO (λx=>(o' x).act) w v:=k3.mono (λx hx f=>by show TG.act (o' x);rw[e x hx];exact f);have n:∀x t,o' x=t->¬t.act->¬(o' x).act:=λx t e ht f=>ht (e ▸ f);exact⟨S'.ko k4 (n _ _ h1 id),T'.ko k4 (n _ _ h2 id) (n _ _ h3 id),Lk.ko k4 (n _ _ h4 id),E'.ko k4 (λb i _ e=>by rcases e with e|e<;>exact n _ _ e id),k,V'.ko k4 (λb e=>n _ _ e id),KV.ko k4 (n _ _ h5 id),D'.ko k4 (λb p _ e=>n _ _ e id),h1,h2,h3,h4,h5⟩
theorem ar.entTo (h:ar o w a s) {i:Int} {c:CD} {b:Nat} {qv:ϗ} {x:EN} {F:Nat->Prop} (hc:fc s.L i=some c)(hb:lk i a.LB=some (ψ b))(hx:x.c=c)(k:KO F w v)(hF:∀y,F y->o y=.en i\/o y=.qu i)(k1:gM o v i b qv x):ar o v a (s.setE i x):=by
 obtain⟨S',T',Lk,E',A',V',KV,D',h1,h2,h3,h4,h5⟩:=h;obtain⟨b2,qv2,IW,_,_,E2⟩:=E'.out hc;have n:∀y t,o y=t->t≠.en i->t≠.qu i->¬F y:=λy t e t1 t2 f=>by
  rcases hF y f with g|g
  ·exact t1 (e.symm.trans g)
  ·exact t2 (e.symm.trans g)
 refine⟨S'.ko k (n _ _ h1 ρp ρp),T'.ko k (n _ _ h2 ρp ρp) (n _ _ h3 ρp ρp),Lk.ko k (n _ _ h4 ρp ρp),?_,A'.ko k (λx e f=>?_),V'.ko k (λb e=>n _ _ e ρp ρp),KV.ko k (n _ _ h5 ρp ρp),D'.ko k (λb p _ e=>n _ _ e ρp ρp),h1,h2,h3,h4,h5⟩
 ·refine bu.back (E2.ko k (λy j hj e=>?_)) hc hb hx k1;rcases e with e|e<;>exact n _ _ e (by intro g;cases g<;>exact hj rfl) (by intro g;cases g<;>exact hj rfl)
 ·rcases hF x f with g|g<;>rw[g] at e<;>simp[TG.act] at e
theorem ar.numTo (h:ar o w a s) {clk acc:Int} (k:KO (λx=>x=a.S) w v)(hS:ah v a.S #[ι ε s.T,ι ε s.Lm,a.T,.map (some a.BY),a.ON,a.LV,.map (some a.KM),clk,acc] 155):ar o v a {s with clk:=clk,acc:=acc}:=by obtain⟨S',T',Lk,E',A',V',KV,D',h1,h2,h3,h4,h5⟩:=h;have n:∀y t,o y=t->t≠.sy->¬y=a.S:=λy t e t1 f=>t1 (by rw[f,h1] at e;exact e.symm);exact⟨hS,T'.ko k (n _ _ h2 ρp) (n _ _ h3 ρp),Lk.ko k (n _ _ h4 ρp),E'.ko k (λb i _ e=>by rcases e with e|e<;>exact n _ _ e ρp),A'.ko k (λx e f=>by rw[f,h1] at e;rcases e with e|e|e;exact e;cases e;cases e),V'.ko k (λb e=>n _ _ e ρp),KV.ko k (n _ _ h5 ρp),D'.ko k (λb p _ e=>n _ _ e ρp),h1,h2,h3,h4,h5⟩
end
structure SS.Wf (s:SS):Prop where
 tree:∀c ∈ s.L,bV s.L c.par=true
 nz:fc s.L 0=none
 ids:∀p j,s.kd p j≠none->∃c,fc s.L j=some c/\c.par=p
 up:∀c ∈ s.L,∃xs,bQ s.L c.id xs/\xs.length<=1000
 ec:∀i c,fc s.L i=some c->(s.e i).c=c
 lvs:∀j,s.lv j≠none->∃c,fc s.L j=some c/\c.lf=true
 cls:∀c ∈ s.L,Go.Proofs.YtfdlemkplejdnaaGreat.kd c.r0 c.r1 c.r2≠0/\(Go.Proofs.YtfdlemkplejdnaaGreat.kd c.l0 c.l1 c.l2≠0/\Go.Proofs.YtfdlemkplejdnaaGreat.kd c.l0 c.l1 c.l2≠4)/\Go.Proofs.YtfdlemkplejdnaaGreat.kd c.u0 c.u1 c.u2≠0
 len:s.L.length<=1000
theorem SS.settle_snoc (s:SS)(xs:List Int)(x:Int):s.settle (xs++[x])=(s.settle xs).settle1 x:=by unfold SS.settle;rw[List.foldl_append];rfl
theorem SS.Wf.settle1 {s:SS} (h:s.Wf) {i:Int} (hi:∃c,fc s.L i=some c):(s.settle1 i).Wf:=by
 unfold SS.settle1;split
 ·refine⟨h.tree,h.nz,λp j hj=>?_,h.up,h.ec,h.lvs,h.cls,h.len⟩;unfold aw at hj;simp only[] at hj;split at hj
  ·rename_i e1;unfold aJ at hj;split at hj
   ·rename_i e;obtain⟨c,hc⟩:=hi;exact⟨c,by rw[e];exact hc,by rw[e1,h.ec i c hc]⟩
   ·rw[e1];exact h.ids _ j hj
  ·exact h.ids p j hj
 ·exact h
theorem iZ {L:List CD} {j:Int} (h:∃c,fc L j=some c):j ∈ L.map CD.id:=by obtain⟨c,hc⟩:=h;exact List.mem_map.2 ⟨c,(aM hc).1,(aM hc).2⟩
theorem bu.at {o:aT} {w:ϖ} {L:List CD} {e:Int->EN} {LB:List (Int × ϗ)} {i:Int} {c:CD} (h:bO o w L e LB)(hc:fc L i=some c):∃b qv,lk i LB=some (ψ (some ⟨b,0,none⟩))/\(e i).c=c/\aj w b qv (e i)/\o b=.en i/\(e i).ok:=by obtain⟨b,qv,h1,h2,h3,_⟩:=h.out hc;exact⟨b,qv,h1,h2,h3.1,h3.2.1,h3.2.2.2⟩
theorem pJ {ty:TypeId} {w:ϖ} {B:Nat} {m:TM} {fp:Nat->Prop} (h:aQ ty w B m fp):0<=fitT m/\fitT m<=Mc:=by
 obtain⟨T,M,t,L,h1,h2,h3,h4,h5,h6,h7,_⟩:=h;have rng:∀v,ic m Mc v->0<=v/\v<=9223372036854775808:=by
  rintro v ⟨h1,h2,h3⟩;rcases h1 with h1|⟨j,q,hq,h1⟩
  ·omega
  ·have:=h7 j q hq;omega
 unfold fitT;split
 ·rename_i QN;exact rng _ (Classical.choose_spec QN)
 ·omega
theorem SS.fit_rng {o:aT} {w:ϖ} {a:Ad} {s:SS} {i:Int} {c:CD} (H:ar o w a s)(hc:fc s.L i=some c):0<=s.fit i/\s.fit i<=Ma:=by
 obtain⟨S',T',Lk,E',A',V',KV,D',oS,oT,oM,SH,SJ⟩:=H;obtain⟨b,qv,h1,h2,h3,h4,ok⟩:=E'.at hc;have:=ok.2.2.2.2.2.2.1;unfold SS.fit;split
 ·exact this
 ·rename_i hn;have Mm:bV s.L i=true:=by
   unfold bV;rw[hc];have:c.lf=false:=by
    rcases e:c.lf with _|_
    ·rfl
    ·exact ax (.inl (by rw[h2];exact e)) hn
   simp[this]
  obtain⟨t,fp,_,T0,_,_⟩:=D'.out Mm;have:=pJ T0;omega
theorem eA {L:List CD}:∀{xs:List Int} {i:Int},bQ L i xs->∀y ∈ xs,∃c,fc L y=some c
 | [],_,_,y,hy=>by simp at hy
 | x::r,i,⟨c,h1,h2,h3⟩,y,hy=>by
  rcases ZC.1 hy with e|e
  ·exact⟨c,by rw[e,h2];exact h1⟩
  ·exact eA h3 y e
theorem Cr (o:aT)(a:Ad)(s:SS)(i:Int)(b:Nat)(w:ϖ)(H:ar o w a s)(hc:∃c,fc s.L i=some c)(hb:lk i a.LB=some (ψ b))(v:Int)(hv:s.fit i=v):
  CB 214 #[a.S,b] w v:=by
 rw[<- hv];exact Ec o a s i b w H hc hb
theorem jh (o:aT)(a:Ad)(s:SS)(i:Int)(xs:List Int)(w:ϖ)(H:ar o w a s)(W:s.Wf)(hu:bQ s.L i xs)(hx:xs.length<=1000):Calls Ψ 159 #[a.S,ι ε i] w λe w'=>e=ϰ (χ #[])/\∃o',ar o' w' a (s.settle xs)/\(∀x,x<w.heap.size->o' x=o x)/\KO (λx=>(o x).mine) w w':=by
 have S0:=H.1;have T0:=H.2.1;have zS:=S0.size;have cS:=S0.cell;have fS:=S0.frozen;go_in;go_wp2_with fail;refine(Aa a.T a.M s.L i xs w T0 hu hx).mono ?_;rintro e v1 ⟨u,rfl,G1,kx⟩;obtain⟨oa,oc,rfl⟩:=G1.slice;obtain⟨n,hn⟩:=Nq xs.length;rw[hn] at G1 hx ⊢;have Qk:∀y ∈ xs,∃c,fc s.L y=some c:=eA hu;replace hn:=ag hn;have z1:=kx.size;have H1:ar (o.more w .no) v1 a s:=(H.own (λx hx=>aT.more_lt hx)).below kx;have nz1:∀x,some x=(Value.slice oa n oc).ownBlock->o.more w .no x=.no:=λx hx=>aT.more_ge (G1.own_ge x hx.symm).1;have UJ:∀x,x<w.heap.size->o.more w .no x=o x:=λx hx=>aT.more_lt hx;have F':KO (λx=>(o x).mine) w v1:=(KO.of_below (F:=λ_=>False) kx).mono (λ_ _ f=>f.elim);clear S0 T0 cS fS;go_wp2_with fail;go_loopw [14] (λk wr=>∃(a1 b1:List Int) (o1:aT),k=ι ε (a1.length:Nat)/\xs=a1++b1/\ar o1 wr a (s.settle a1)/\(s.settle a1).Wf/\(s.settle a1).L=s.L/\HI wr w (ζ oa n oc) xs/\(∀x,some x=(Value.slice oa n oc).ownBlock->o1 x=.no)/\(∀x,x<w.heap.size->o1 x=o x)/\KO (λx=>(o x).mine) w wr) (λk _=>n - (intOf k).toNat);case atStart=>exact⟨[],xs,_,rfl,rfl,H1,W,rfl,G1,nz1,UJ,F'⟩
 case round=>
  obtain⟨a1,b1,o1,rfl,IF,H0,W0,eL,G0,nz0,MS,IB⟩:=hrel;clear H1 G1 nz1 UJ F';have IK:a1.length+b1.length=n:=τe;obtain⟨q,hq⟩:=Nq a1.length;rw[hq] at IK ⊢;have zw:=IB.size;cases b1 with
  | nil=>have IJ:¬q<n:=ρo;have hd:=ZF IJ;have PO:a1=xs:=ρN;rw[PO] at H0;change Hid _ at IK hq;clear IF PO;go_wp2_with fail;go_end0;exact⟨rfl,_,H0.below ρE,MS,IB.step0 ρE⟩
  | cons x r=>
   have IJ:q<n:=ρo;have hd:=ZT IJ;have Lz:xs[q]?=some x:=ρF;have IX:xs≠[]:=ρR;obtain⟨c,hc⟩:=Qk x ρR;have JB:=SS.settle_snoc s a1 x;obtain⟨s1,Ju⟩:=Nq (s.settle a1);rw[Ju] at H0 W0 eL JB;rw[<- eL] at hc;obtain⟨Tz,MX,g0,e0,JA,e1,_⟩:=ae.at G0 (λ_=>rfl);have e1:=e1 IX;obtain⟨rfl,-,rfl⟩:=ZV e0;subst e1;obtain⟨cx,gx,bx⟩:=HI.cell G0 q x Lz;have KL:q<n:=ρo;have Tr:=W0.settle1 ⟨c,hc⟩;obtain⟨S',T',Lk,E',A',V',KV,D',oS,oT,oM,SH,SJ⟩:=id H0;obtain⟨b,qv,hb,Jj,X',ob,ok⟩:=E'.at hc;have MN:(s1.e x).c.id=x:=by rw[Jj];exact(aM hc).2
   obtain⟨z,hz⟩:=Nq (s1.A.is x);obtain⟨p,hp⟩:=Nq ((s1.e x).c.par);obtain⟨vt,QW⟩:=Nq ((s1.e x).sh.t);obtain⟨ft,Wj⟩:=Nq (s1.fit x);have rft:=SS.fit_rng H0 hc;have rvt:=ok.2.2.2.2.1;rw[Wj] at rft;rw[QW] at rvt;have Mm:bV s1.L p=true:=by rw[<- hp,Jj];exact W0.tree c (aM hc).1
   obtain⟨t,fp,ht,T0,MZ,-⟩:=D'.out Mm;have Kf:=W0.ids p;change Hid _ at IF hq JA IK Ju JB eL MN hp QW Wj hb ht hc Jj;clear T' E' V' D' oS oT oM SH SJ IX;have Rv:=S';have LG:=Lk;have Qq:=A';have QF:=X';have Mp:=KV;have Xs:=T0;clear S' Lk A' X' KV T0;have Rr:=Rv.r;have Jv:=((am Δ Θ LG x (z:=Kp) ρm).2.trans (by rw[hb.out];try rfl));have JC:=((am Γ Θ Mp p (z:=Kp) ρm).2.trans ρU);have IT:=((aj.c1 QF).trans τ0);have I5:=((aj.c2 QF).trans (by rw[hp.out]));have Kq:=((aj.c48 QF).trans (by rw[QW.out]));go_wp2_with fail;refine(Cf s1.A a.ON a.A a.O a.C o1 s1.L x z _ Qq hz).mono ?_;rintro e v ⟨rfl,rfl⟩;replace hz:=ag hz;rcases z with _|_
   ·have he:s1.settle1 x=s1:=by unfold SS.settle1;rw[ZI (by rw[hz.out];simp)]
    go_wp2;go_roundw;case rel=>exact⟨a1++[x],r,o1,by rw[ZL,hq.out];go_num,by rw[IF.out];simp,by rw[JB.out,he];exact H0.below ρE,by rw[JB.out];exact Tr,by rw[JB.out,he];exact eL.out,ae.below G0 ρE,nz0,MS,IB.step0 ρE⟩
    case measure=>exact ξc
   ·have he:s1.settle1 x={s1 with kd:=aw s1.kd p (aJ (s1.kd p) x (some (vt,ft)))}:=by unfold SS.settle1;rw[ZP hz.out,hp.out,QW.out,Wj.out]
    clear Qq;replace he:=ag he;go_wp2_with fail;refine bS (θ8 IB H0 Rv LG QF Mp G0 Xs) ?_;clear Rr;rintro v1 ⟨F',H1,JE,Nu,JS,Kl,G1,UY⟩ Rr;replace Jv:=((am Δ Θ Nu x (z:=Kp) ρm).2.trans (by rw[hb.out];try rfl));replace JC:=((am Γ Θ Kl p (z:=Kp) ρm).2.trans ρU);replace IT:=((aj.c1 JS).trans τ0);replace I5:=((aj.c2 JS).trans (by rw[hp.out]));replace Kq:=((aj.c48 JS).trans (by rw[QW.out]));have MH:=af JE;have Kh:=λd os=>((am Δ Θ (Nu.grow d os) x (z:=Kp) ρm).2.trans (by rw[hb.out];try rfl));have Jh:=λd os=>((aj.c1 (JS.below (ZW _ d os))).trans τ0);have Jt:=λd os=>((aj.c2 (JS.below (ZW _ d os))).trans (by rw[hp.out]));have MI:=λd os=>((aj.c48 (JS.below (ZW _ d os))).trans (by rw[QW.out]));have Ki:=λd os=>((am Γ Θ (Kl.grow d os) p (z:=Kp) ρm).2.trans ρU);refine Ws 19 (mw ?_)
    repeat (go_big_quiet_step ((first
      | (go_at_call 214;(with_reducible exact bT (Cr o1 a s1 x b _ (H1.below (ZW _ _ _)) ⟨c,hc.out⟩ hb.out ft Wj.out))))))
    refine bF (θ8 H1 JE Nu JS Kl G1 UY F') ?_;clear Rr;rintro v2 ⟨H2,KJ,Oq,JZ,NX,G2,T02,Iz⟩ Rr;replace Jv:=((am Δ Θ Oq x (z:=Kp) ρm).2.trans (by rw[hb.out];try rfl));replace JC:=((am Γ Θ NX p (z:=Kp) ρm).2.trans ρU);replace IT:=((aj.c1 JZ).trans τ0);replace I5:=((aj.c2 JZ).trans (by rw[hp.out]));replace Kq:=((aj.c48 JZ).trans (by rw[QW.out]));clear MH Kh Jh Jt MI Ki H1 JE Nu JS Kl G1 UY;go_wp2_with fail;refine(Fo t (s1.kd p) fp x vt ft (s1.L.map CD.id) _ T02 rvt rft (λj hj=>iZ ((Kf j hj).imp λc h=>h.1)) (by rw[pf];have:=W0.len;omega)).mono ?_;rintro e v3 ⟨rfl,TT⟩;have H3:=H2.kdTo Mm ht.out MZ TT;obtain⟨fp3,_,_,kx⟩:=TT;have ID:=Iz.trans kx (by intro y hy f;show TG.mine _;rw[<- MS y hy,MZ y f];simp[TG.mine]);have G3:=ae.ko G2 kx (λy _ hy f=>by have h1:=nz0 y hy;rw[MZ y f] at h1;cases h1);go_wp2;go_roundw;case rel=>exact⟨a1++[x],r,o1.more v2 (.kd p),by rw[ZL,hq.out];go_num,by rw[IF.out];simp,by rw[JB.out,he.out];exact H3.below ρE,by rw[JB.out];exact Tr,by rw[JB.out,he.out];exact eL.out,ae.below G3 ρE,λy hy=>(aT.more_lt (G2.own_ge y hy.symm).2).trans (nz0 y hy),λy hy=>(aT.more_lt (by have:=Iz.size;omega)).trans (MS y hy),ID.step0 ρE⟩
    case measure=>exact ξc
theorem dC {P:Program} {IA:Array Oper} {rest:List Oper} {op:Oper} {a:Act} {v:ϖ} {Q:Act->Prop} (ty:TypeId)(x:Operand)(B o:Nat)(cs cs':Array ϗ)(t:TypeId)(d:TypeDesc)
  (ho:op.op=.load ty x) (hw:Region.wanted op (yielded IA a.tmps)=true) (hx:a.eval x=ψ (some ⟨B,o,none⟩)) (hB:ah v B cs t) (hc:∀j u,cs'.toList[j]?=some u->cs[o+j]?=some u) (hu:P.underlying ty=some d) (hd:d.isRow=true) (hi:(P.info? ty).map (·.size)=some cs'.size)
  (h:wpQuiet P IA (λw'=>∃p:Regrown,w'=grow (redrawn v p.d) p.os) Q rest (a.put op.dst (φ cs'))):wpQuiet P IA (λw'=>∃p:Regrown,w'=grow (redrawn v p.d) p.os) Q (op::rest) a:=by
 refine wpQuiet_step λK hK=>?_;rw[ZP hw];refine⟨φ cs',λw' NG=>?_,hK _ h⟩;obtain⟨p,rfl⟩:=NG;have hb:ah (grow (redrawn v p.d) p.os) B cs t:=ah.below hB (ZW _ _ _) hB.size;have hl:=run_loadVar_mid (P:=P) (grow (redrawn v p.d) p.os) B o ty cs'.toList d (λj u hj=>by rw[hb.cell];exact hc j u hj) hu hd τk;unfold Oper.quietAt execOp;simp only[ho,hx,Instr.loadAt,Instr.sureAddr,Sem.run_bind,Sem.run_pure,Result.andThen_ok,hl,Oper.quietUpon];exact⟨trivial,by simp⟩
theorem iv {P:Program} {IA:Array Oper} {rest:List Oper} {op:Oper} {a:Act} {w:ϖ} {Q:Exit->Act->ϖ->Prop} (ty:TypeId)(x y:Operand)(B o:Nat)(cs cs' Pz:Array ϗ)(t:TypeId)
  (Ld:op.guard=none) (ho:op.op=.store ty x y) (hx:a.eval x=ψ (some ⟨B,o,none⟩)) (hy:a.eval y=φ cs') (hB:ah w B cs t) (Kw:o+cs'.size<=cs.size) (MA:cJ cs o cs'.toList=Pz) (hi:(P.info? ty).map (·.size)=some cs'.size) (h1:cs'.all (·.oneCell')=true)
  (h:∀w',ah w' B Pz t->KO (λk=>k=B) w w'->w'.heap.size=w->wpList P IA Q rest (a.put op.dst undef) w'):wpList P IA Q (op::rest) a w:=by
 refine wpList_store_mid Ld ty x y ho B o cs' hx hy (λj hj=>?_) hi h1 ?_
 ·exact ηw
 ·have hb:=ah.setCells cs'.toList o w cs hB;rw[MA] at hb;exact h _ hb (KO.setCells (F:=λk=>k=B) (λ_=>rfl) _ _ _ (KO.refl _ _)) (ey B _ _ _)
theorem aj.lcl {IA:Array Oper} {rest:List Oper} {op:Oper} {a:Act} {w:ϖ} {Q:Exit->Act->ϖ->Prop} {b:Nat} {qv:ϗ} {x:EN} (hB:aj w b qv x)(p:Operand)(Ld:op.guard=none)(ho:op.op=.load 43 p)(hx:a.eval p=ψ (some ⟨b,1,none⟩))
  (h:wpList Ψ IA Q rest (a.put op.dst (CD.v x.c)) w):wpList Ψ IA Q (op::rest) a w:=
 uV 43 p b 1 (nX x qv) (fx x.c) 244 _ Ld ho hx hB ρ1 Tryz.underlying43 rfl ρh h
theorem aj.qrt {IA:Array Oper} {rest:List Oper} {op:Oper} {a:Act} {v:ϖ} {Q:Act->Prop} {b:Nat} {qv:ϗ} {x:EN} (hB:aj v b qv x)(p:Operand)(ho:op.op=.load 41 p)(hw:Region.wanted op (yielded IA a.tmps)=true)(hx:a.eval p=ψ (some ⟨b,4,none⟩))
  (h:wpQuiet Ψ IA (λw'=>∃p:Regrown,w'=grow (redrawn v p.d) p.os) Q rest (a.put op.dst (φ (aP x.c.r0 x.c.r1 x.c.r2)))):wpQuiet Ψ IA (λw'=>∃p:Regrown,w'=grow (redrawn v p.d) p.os) Q (op::rest) a:=
 dC 41 p b 4 (nX x qv) (aP x.c.r0 x.c.r1 x.c.r2) 244 _ ho hw hx hB σD Tryz.underlying41 rfl ρh h
theorem aj.qls {IA:Array Oper} {rest:List Oper} {op:Oper} {a:Act} {v:ϖ} {Q:Act->Prop} {b:Nat} {qv:ϗ} {x:EN} (hB:aj v b qv x)(p:Operand)(ho:op.op=.load 41 p)(hw:Region.wanted op (yielded IA a.tmps)=true)(hx:a.eval p=ψ (some ⟨b,7,none⟩))
  (h:wpQuiet Ψ IA (λw'=>∃p:Regrown,w'=grow (redrawn v p.d) p.os) Q rest (a.put op.dst (φ (aP x.c.l0 x.c.l1 x.c.l2)))):wpQuiet Ψ IA (λw'=>∃p:Regrown,w'=grow (redrawn v p.d) p.os) Q (op::rest) a:=
 dC 41 p b 7 (nX x qv) (aP x.c.l0 x.c.l1 x.c.l2) 244 _ ho hw hx hB σD Tryz.underlying41 rfl ρh h
theorem aj.qul {IA:Array Oper} {rest:List Oper} {op:Oper} {a:Act} {v:ϖ} {Q:Act->Prop} {b:Nat} {qv:ϗ} {x:EN} (hB:aj v b qv x)(p:Operand)(ho:op.op=.load 41 p)(hw:Region.wanted op (yielded IA a.tmps)=true)(hx:a.eval p=ψ (some ⟨b,10,none⟩))
  (h:wpQuiet Ψ IA (λw'=>∃p:Regrown,w'=grow (redrawn v p.d) p.os) Q rest (a.put op.dst (φ (aP x.c.u0 x.c.u1 x.c.u2)))):wpQuiet Ψ IA (λw'=>∃p:Regrown,w'=grow (redrawn v p.d) p.os) Q (op::rest) a:=
 dC 41 p b 10 (nX x qv) (aP x.c.u0 x.c.u1 x.c.u2) 244 _ ho hw hx hB σD Tryz.underlying41 rfl ρh h
theorem aj.qdu {IA:Array Oper} {rest:List Oper} {op:Oper} {a:Act} {v:ϖ} {Q:Act->Prop} {b:Nat} {qv:ϗ} {x:EN} (hB:aj v b qv x)(p:Operand)(ho:op.op=.load 238 p)(hw:Region.wanted op (yielded IA a.tmps)=true)(hx:a.eval p=ψ (some ⟨b,16,none⟩))
  (h:wpQuiet Ψ IA (λw'=>∃p:Regrown,w'=grow (redrawn v p.d) p.os) Q rest (a.put op.dst (eF x.du))):wpQuiet Ψ IA (λw'=>∃p:Regrown,w'=grow (redrawn v p.d) p.os) Q (op::rest) a:=
 dC 238 p b 16 (nX x qv) (dB x.du.has x.du.D x.du.E x.du.p x.du.e x.du.t) 244 _ ho hw hx hB ρL Tryz.underlying238 rfl ρh h
theorem aj.qsh {IA:Array Oper} {rest:List Oper} {op:Oper} {a:Act} {v:ϖ} {Q:Act->Prop} {b:Nat} {qv:ϗ} {x:EN} (hB:aj v b qv x)(p:Operand)(ho:op.op=.load 240 p)(hw:Region.wanted op (yielded IA a.tmps)=true)(hx:a.eval p=ψ (some ⟨b,38,none⟩))
  (h:wpQuiet Ψ IA (λw'=>∃p:Regrown,w'=grow (redrawn v p.d) p.os) Q rest (a.put op.dst (jy x.sh))):wpQuiet Ψ IA (λw'=>∃p:Regrown,w'=grow (redrawn v p.d) p.os) Q (op::rest) a:=
 dC 240 p b 38 (nX x qv) (eT x.sh.has x.sh.r x.sh.t) 244 _ ho hw hx hB σb Tryz.underlying240 rfl ρh h
theorem aj.qcp {IA:Array Oper} {rest:List Oper} {op:Oper} {a:Act} {v:ϖ} {Q:Act->Prop} {b:Nat} {qv:ϗ} {x:EN} (hB:aj v b qv x)(p:Operand)(ho:op.op=.load 242 p)(hw:Region.wanted op (yielded IA a.tmps)=true)(hx:a.eval p=ψ (some ⟨b,49,none⟩))
  (h:wpQuiet Ψ IA (λw'=>∃p:Regrown,w'=grow (redrawn v p.d) p.os) Q rest (a.put op.dst (jy x.cp))):wpQuiet Ψ IA (λw'=>∃p:Regrown,w'=grow (redrawn v p.d) p.os) Q (op::rest) a:=
 dC 242 p b 49 (nX x qv) (eT x.cp.has x.cp.r x.cp.t) 244 _ ho hw hx hB σb Tryz.underlying242 rfl ρh h
theorem aj.sdu {IA:Array Oper} {rest:List Oper} {op:Oper} {a:Act} {w:ϖ} {Q:Exit->Act->ϖ->Prop} {b:Nat} {qv:ϗ} {x:EN} (hB:aj w b qv x)(l:LF)(p y:Operand)(Ld:op.guard=none)(ho:op.op=.store 238 p y)(hx:a.eval p=ψ (some ⟨b,16,none⟩))(hy:a.eval y=φ (dB l.has l.D l.E l.p l.e l.t))
  (h:∀w',aj w' b qv {x with du:=l}->KO (λk=>k=b) w w'->w'.heap.size=w->wpList Ψ IA Q rest (a.put op.dst undef) w'):wpList Ψ IA Q (op::rest) a w:=
 iv 238 p y b 16 (nX x qv) (dB l.has l.D l.E l.p l.e l.t) (nX {x with du:=l} qv) 244 Ld ho hx hy hB ρp ρh ρh σg h
theorem aj.ssh {IA:Array Oper} {rest:List Oper} {op:Oper} {a:Act} {w:ϖ} {Q:Exit->Act->ϖ->Prop} {b:Nat} {qv:ϗ} {x:EN} (hB:aj w b qv x)(c:CH)(p y:Operand)(Ld:op.guard=none)(ho:op.op=.store 240 p y)(hx:a.eval p=ψ (some ⟨b,38,none⟩))(hy:a.eval y=φ (eT c.has c.r c.t))
  (h:∀w',aj w' b qv {x with sh:=c}->KO (λk=>k=b) w w'->w'.heap.size=w->wpList Ψ IA Q rest (a.put op.dst undef) w'):wpList Ψ IA Q (op::rest) a w:=
 iv 240 p y b 38 (nX x qv) (eT c.has c.r c.t) (nX {x with sh:=c} qv) 244 Ld ho hx hy hB ρp ρh ρh σg h
theorem aj.scp {IA:Array Oper} {rest:List Oper} {op:Oper} {a:Act} {w:ϖ} {Q:Exit->Act->ϖ->Prop} {b:Nat} {qv:ϗ} {x:EN} (hB:aj w b qv x)(c:CH)(p y:Operand)(Ld:op.guard=none)(ho:op.op=.store 242 p y)(hx:a.eval p=ψ (some ⟨b,49,none⟩))(hy:a.eval y=φ (eT c.has c.r c.t))
  (h:∀w',aj w' b qv {x with cp:=c}->KO (λk=>k=b) w w'->w'.heap.size=w->wpList Ψ IA Q rest (a.put op.dst undef) w'):wpList Ψ IA Q (op::rest) a w:=
 iv 242 p y b 49 (nX x qv) (eT c.has c.r c.t) (nX {x with cp:=c} qv) 244 Ld ho hx hy hB ρp ρh ρh σg h
theorem ww (o:aT)(a:Ad)(s:SS)(now:Int)(w:ϖ)(H:ar o w a s)(h:¬now<s.clk)(h2:¬4611686018427387904<now):Calls Ψ 126 #[a.S,now] w λe w'=>e=ϰ fJ/\ar o w' a {s with clk:=now}/\KO (λx=>x=a.S) w w':=by
 have S':=H.1;have rS:=S'.r;have d1:decide (now<s.clk)=false:=ZF h;have d2:decide (4611686018427387904<now)=false:=ZF h2;go_in;go_wp2;go_ret;have k:KO (λx=>x=a.S) w (w.setCell ⟨a.S,7,none⟩ now):=ρK;exact⟨rfl,H.numTo (clk:=now) (acc:=s.acc) k ρB,k⟩
open Classical in
noncomputable def dU (m:TM):Int:=if h:∃v,ib m Mc v then h.choose else Mc
theorem sg {m:TM} {d v u:Int} (h:ib m d v)(k:ib m d u):v=u:=ξ6
theorem wV {m:TM} {v:Int} (h:ib m Mc v):dU m=v:=by unfold dU;rw[dif_pos ⟨v,h⟩];exact sg (Classical.choose_spec (⟨v,h⟩:∃v,ib m Mc v)) h
theorem Dn (B:Nat)(m:TM)(fp:Nat->Prop)(w:ϖ)(H:aQ 209 w B m fp)(v:Int)(hv:dU m=v):
  CB 171 #[B] w v:=by
 refine(Fl B m fp w H).mono ?_;rintro e w' ⟨u,rfl,hu,hb⟩;exact⟨by rw[<- hv,wV hu],hb⟩
theorem Ea (o:aT)(a:Ad)(s:SS)(w:ϖ)(H:ar o w a s):
  CB 134 #[a.S] w (ι υ (min (dU s.lv) (fitT (s.kd 0)))):=by
 obtain⟨S',-,-,-,-,⟨Sj,V',-⟩,KV,D',-⟩:=H;obtain⟨t,fp,ht,T0,-,-⟩:=D'.out (p:=0) rfl;obtain⟨x,hx⟩:=Nq (dU s.lv);obtain⟨y,hy⟩:=Nq (fitT (s.kd 0));rw[hx,hy];change Hid _ at hx hy ht;clear D';have Rr:=S'.r;have JC:=((am Γ Θ KV 0 (z:=Kp) ρm).2.trans ρU);unfold CB;go_in;go_wp2_with fail;refine bS (θ5 (Ks (λ_=>False) w) S' V' KV T0) ?_;clear Rr;rintro v1 ⟨F',JE,V'1,Kl,UY⟩ Rr;replace JC:=((am Γ Θ Kl 0 (z:=Kp) ρm).2.trans ρU);have q:=af JE;have Ki:=λd os=>((am Γ Θ (Kl.grow d os) 0 (z:=Kp) ρm).2.trans ρU);refine Wq ?_
 repeat (go_big_quiet_step ((first
   | (go_at_call 171;(with_reducible exact bT (Dn a.LV _ Sj _ (V'1.below (ZW _ _ _)) x hx.out)))
   | (go_at_call 172;(with_reducible exact bT (BI t (s.kd 0) fp _ (UY.below (ZW _ _ _)) y hy.out))))))
 refine bF (θ5 JE V'1 Kl UY F') ?_;clear Rr;rintro v2 ⟨KJ,V'2,NX,T02,Iz⟩ Rr;replace JC:=((am Γ Θ NX 0 (z:=Kp) ρm).2.trans ρU);clear q Ki JE V'1 Kl UY;go_wp2;go_ret;exact⟨rfl,(Iz.step0 ρE).toBelow⟩
theorem iz {L:List CD}:∀{xs ys:List Int} {i:Int},bQ L i xs->bQ L i ys->xs=ys
 | [],[],_,_,_=>rfl
 | [],y::r,i,h,⟨c,h1,_⟩=>by have h:fc L i=none:=h;rw[h] at h1;cases h1
 | x::r,[],i,⟨c,h1,_⟩,h=>by have h:fc L i=none:=h;rw[h] at h1;cases h1
 | x::r,y::q,i,⟨c,h1,h2,h3⟩,⟨d,k1,k2,k3⟩=>by rw[h1] at k1;cases k1;rw[h2,k2,iz h3 k3]
open Classical in
noncomputable def F3 (L:List CD) (i:Int):Nat:=if h:∃xs,bQ L i xs then h.choose.length else 0
theorem rP {L:List CD} {xs:List Int} {i:Int} (h:bQ L i xs):F3 L i=xs.length:=by unfold F3;rw[dif_pos ⟨xs,h⟩];exact ZG List.length (iz (Classical.choose_spec (⟨xs,h⟩:∃xs,bQ L i xs)) h)
theorem wn (o:aT)(a:Ad)(s:SS)(now:Int)(w:ϖ)(H:ar o w a s)(W:s.Wf):Calls Ψ 160 #[a.S,now] w λe w'=>∃i b ok,e=ϰ (χ #[ι ε i,β b,β ok])/\((ok=true/\SS.Choose s now (some (i,b)))\/(ok=false/\i=0/\b=false/\SS.Choose s now none))/\Below w w w':=by
 obtain⟨S',-,Lk,E',-,⟨Sj,V',-⟩,KV,D',-⟩:=id H;have Rr:=S'.r;go_in;go_wp2_with fail;refine(Do a.LV s.lv Sj now _ w V' rfl).mono ?_;rintro e v1 ⟨i,ok,rfl,Vm,kx⟩;have H1:=H.below kx;have z1:=kx.size;rcases ok with _|_
 rotate_left
 ·replace Vm:=ag Vm;go_wp2;go_returns;exact⟨i,true,true,rfl,.inl ⟨rfl,.inl ⟨i,Vm.out,rfl⟩⟩,kx.trans (Below.mono ρE z1)⟩
 obtain⟨rfl,NF⟩:=id Vm;replace NF:=ag NF;replace Vm:=ag Vm;clear V';go_wp2_with fail;go_loopw [9] (λt wr=>∃i:Int,t=ι ε i/\ar o wr a s/\bV s.L i=true/\(∃xs,bQ s.L i xs/\xs.length<=1000)/\(∀r,SS.Chain s now i r->SS.Chain s now 0 r)/\Below w w wr) (λt _=>1000 - F3 s.L (intOf t));case atStart=>exact⟨0,rfl,H1,rfl,⟨[],by show fc s.L 0=none;exact W.nz,by simp⟩,λr h=>h,kx⟩
 case round=>
  clear S' Lk E' KV D' H1 kx;obtain⟨i,rfl,H0,Mm,⟨xs,IF,QX⟩,Jq,IB⟩:=hrel;obtain⟨Rv,-,LG,E',-,-,Mp,D',-⟩:=id H0;obtain⟨t,fp,ht,Xs,-,-⟩:=D'.out Mm;have zw:=IB.size;replace Mm:=ag Mm;replace ht:=ag ht;replace Jq:=ag Jq;replace IF:=ag IF;clear D';have lK:=((am Γ Θ Mp i (z:=Kp) ρm).2.trans ρU);have Ss:=Rv.r;go_wp2_with fail;refine(Dp t (s.kd i) fp now _ wr Xs rfl).mono ?_;rintro e v2 ⟨j,ok,rfl,Wy,kx⟩;have H2:=H0.below kx;have z2:=kx.size;rcases ok with _|_
  ·obtain⟨rfl,-⟩:=id Wy;replace Wy:=ag Wy;go_wp2;go_returns;exact⟨0,false,false,rfl,.inr ⟨rfl,rfl,rfl,.inr ⟨Vm.out,.inr ⟨Jq.out _ (.none Wy.out),rfl⟩⟩⟩,IB.trans ((kx.trans (Below.mono ρE z2)).mono zw)⟩
  ·obtain⟨y,hy,-⟩:=id Wy;obtain⟨c,hc,Jy⟩:=W.ids i j (by rw[hy];simp);obtain⟨KJ,-,Oq,YH,-,-,NX,-,-⟩:=id H2;obtain⟨b,qv,hb,Jj,JZ,-,-⟩:=YH.at hc;obtain⟨lf,JK⟩:=Nq ((s.e j).c.lf);have lB:=((am Δ Θ Oq j (z:=Kp) ρm).2.trans (by rw[hb];try rfl));have lX:=(aj.c3 JZ).trans (by rw[JK]);replace Ss:=KJ.r;replace Wy:=ag Wy;replace hy:=ag hy;replace hc:=ag hc;replace JK:=ag JK;replace Jy:=ag Jy;replace hb:=ag hb;replace Jj:=ag Jj;clear lK E' YH;rcases lf with _|_
   ·go_wp2;go_roundw;case rel=>exact⟨j,rfl,H2.below ρE,by unfold bV;rw[hc.out];have:=JK.out;rw[Jj.out] at this;simp[this],(W.up c (aM hc.out).1).imp λys h=>⟨(aM hc.out).2 ▸ h.1,h.2⟩,λr h=>Jq.out r (.inner Wy.out JK.out h),IB.trans ((kx.trans (Below.mono ρE z2)).mono zw)⟩
    case measure=>
     obtain⟨ys,Jd,Pq⟩:=W.up c (aM hc.out).1;rw[(aM hc.out).2] at Jd;have e1:=rP IF.out;have e2:=rP Jd;have e3:bQ s.L j (j::xs):=⟨c,hc.out,rfl,by rw[Jy.out];exact IF.out⟩;have e4:=rP e3;simp only[intOf,mM] at*;omega
   ·go_wp2;go_returns;exact⟨j,false,true,rfl,.inl ⟨rfl,.inr ⟨Vm.out,.inl ⟨j,Jq.out _ (.leaf Wy.out JK.out),rfl⟩⟩⟩,IB.trans ((kx.trans (Below.mono ρE z2)).mono zw)⟩
theorem pN {w:ϖ} {B:Nat} {IV:Int} {c:Nat} {l:List PK} {fp:Nat->Prop} (H:aW w B IV c l fp):-Mc<=aZ l/\aZ l<=Mb:=by
 obtain⟨R,S,f,ps,k0,k1,k2,k3,k4,k5,B',G,JX,IS,_⟩:=H;cases l with
 | nil=>simp[aZ]
 | cons p r=>have:=IS p ρp;simp only[aZ];omega
theorem xi (B:Nat)(IV:Int)(c:Nat)(l:List PK)(fp:Nat->Prop)(w:ϖ)(H:aW w B IV c l fp)(n:Int)(hn:aZ l=n):
  CB 220 #[B] w (ι ε n):=by
 rw[<- hn];exact EA B IV c l fp w H
theorem tM {l:LF} {x:Bool} {s h:Int} (ol:l.ok):(if x then l.took s h else l.headed h).ok/\(0<=(if x then l.took s h else l.headed h).e/\(if x then l.took s h else l.headed h).e<=Ma)/\(0<=(if x then l.took s h else l.headed h).t/\(if x then l.took s h else l.headed h).t<=Ma):=by
 have key:∀(m:LF) (h:Int),m.ok->(m.headed h).ok/\(0<=(m.headed h).e/\(m.headed h).e<=Ma)/\(0<=(m.headed h).t/\(m.headed h).t<=Ma):=by
  intro m h om;unfold LF.headed;split
  ·have r1:=RN.reach_rng om.2.1 (m.p*65536);have r2:=RN.reach_rng om.1 (IntKind.u64.wrap (m.p+h)*65536);exact⟨om,by simp only[];omega,by simp only[];omega⟩
  ·exact⟨om,by simp,by simp⟩
 cases x with
 | false=>exact key l h ol
 | true=>simp only[if_true];unfold LF.took;exact key _ h ⟨ol.1,ol.2.1,ro _⟩
theorem jQ (s:SS)(i:Int):s.setE i (s.e i)=s:=by
 have:aw s.e i (s.e i)=s.e:=funext λj=>by unfold aw;split<;>simp_all
 unfold SS.setE;rw[this]
theorem ar.same {o:aT} {w:ϖ} {a:Ad} {s s':SS} (h:ar o w a s)(e:s=s'):ar o w a s':=e ▸ h
theorem pE {s:SS} {i len:Int} {x:Bool} {l:LF} (hr:SS.real (s.e i).c=true)(hl:(if x then (s.e i).du.took len (aZ (s.e i).q) else (s.e i).du.headed (aZ (s.e i).q))=l)(hq:(s.e i).q≠[]):s.due i len x={(s.setE i {s.e i with du:=l}) with lv:=aJ s.lv i (some (l.e,l.t))}:=by unfold SS.due;rw[ZP hr,hl,ZI hq];rfl
theorem tL {s:SS} {i len:Int} {x:Bool} {l:LF} (hr:SS.real (s.e i).c=true)(hl:(if x then (s.e i).du.took len (aZ (s.e i).q) else (s.e i).du.headed (aZ (s.e i).q))=l)(hq:(s.e i).q=[]):s.due i len x={(s.setE i {s.e i with du:=l}) with lv:=aJ (aJ s.lv i (some (l.e,l.t))) i none}:=by unfold SS.due;rw[ZP hr,hl,ZP hq];rfl
theorem Cq (o:aT)(a:Ad)(s:SS)(i len:Int)(by_:Bool)(c:CD)(b:Nat)(w:ϖ)(H:ar o w a s)(W:s.Wf)(hc:fc s.L i=some c)(JK:c.lf=true)(hb:lk i a.LB=some (ψ b))(IS:-Mc<=len/\len<=Mb):Calls Ψ 164 #[a.S,b,ι ε len,β by_] w λe w'=>e=ϰ (χ #[])/\∃o',ar o' w' a (s.due i len by_)/\(∀x,x<w.heap.size->o' x=o x)/\KO (λx=>(o x).mine) w w':=by
 obtain⟨S',T',Lk,E',A',⟨Sj,V',Pm⟩,KV,D',oS,oT,oM,SH,SJ⟩:=id H;obtain⟨b2,qv,IW,Jj,E0,-⟩:=E'.out hc;have eb:=iK (hb.symm.trans IW);subst eb;obtain⟨X0,ob,Q0,ok⟩:=E0;have X':aj w b qv (s.e i):=X0;have QP:(s.e i).c.lf=true:=by rw[Jj];exact JK
 unfold dQ at Q0;rw[ZP QP] at Q0;obtain⟨Q,OD,rfl,Q',ND⟩:=Q0;have MN:(s.e i).c.id=i:=by rw[Jj];exact(aM hc).2
 obtain⟨rl,Nr⟩:=Nq (SS.real (s.e i).c);have rng:0<=(s.e i).c.r0/\0<=(s.e i).c.r1/\0<=(s.e i).c.r2:=by rw[Jj];obtain⟨h1,-⟩:=id H;exact(T'.2.2 c (aM hc).1).2.2.1
 obtain⟨KZ,hhd⟩:=Nq (aZ (s.e i).q);have rhd:-Mc<=KZ/\KZ<=Mb:=by rw[<- hhd];exact pN Q'
 have Kf:=W.lvs;obtain⟨L2,Lh⟩:=Nq (if by_ then (s.e i).du.took len KZ else (s.e i).du.headed KZ);have Qo:L2.ok/\(0<=L2.e/\L2.e<=Ma)/\(0<=L2.t/\L2.t<=Ma):=by rw[<- Lh];exact tM ok.1
 have okd:=ok.1;change Hid _ at MN Jj hhd ND Pm Kf ok;have OH:=ag hb;have hc0:=ag hc;have OP:=ag Nr;clear Nr T' Lk E' A' KV D' IW;have Rr:=S'.r;have IT:=(aj.c0 X');go_in;go_wp2_with (refine aj.lcl X' (.tmp 10) ρr ρr ρr ?_);go_wp2_with fail;refine(rb _ (s.e i).c.id (s.e i).c.par (s.e i).c.lf (s.e i).c.r0 (s.e i).c.r1 (s.e i).c.r2 (s.e i).c.l0 (s.e i).c.l1 (s.e i).c.l2 (s.e i).c.u0 (s.e i).c.u1 (s.e i).c.u2 (s.e i).c.pk (s.e i).c.by_ rng rl OP.out).mono ?_;rintro e v1 ⟨rfl,kx⟩;have IB:KO (λy=>y=b) w w:=KO.refl _ _;obtain⟨JE,JS,UX,F'⟩:=Mw kx (θ4 S' X' Q' (Ks (λy=>y=b) w));clear kx S' Q';replace Rr:=JE.r;replace IT:=(aj.c0 JS);rcases rl with _|_
 ·have he:s.due i len by_=s:=by unfold SS.due;rw[OP.out];simp
  replace he:=ag he;go_wp2;go_returns;rw[he.out];exact⟨rfl,o,(H.entTo hc hb Jj.out (F'.step0 ρE) τo ⟨JS.below ρE,ob,by unfold dQ;rw[ZP QP];exact⟨Q,OD,rfl,UX.below ρE,ND.out⟩,ok.out⟩).same (jQ s i),λ_ _=>rfl,(F'.step0 ρE).mono σO⟩
 rcases by_ with _|_
 ·simp only[Bool.false_eq_true,if_false] at Lh;have Lh:=ag Lh;go_wp2_with fail;refine bS (θ4 F' JE JS UX) ?_;clear Rr;rintro v2 ⟨Iz,KJ,JZ,Td⟩ Rr;replace IT:=(aj.c0 JZ);have q:=af KJ;have Jh:=λd os=>(aj.c0 (JZ.below (ZW _ d os)));refine Ws 13 (mw ?_)
  repeat (first
   | (refine aj.qdu JZ (.tmp 32) ρr ρr ρr ?_;(try simp only[Act.put,List.setIfInBounds_toArray,List.set_cons_succ,List.set_cons_zero]))
   | (go_big_quiet_step ((first
    | (go_at_call 220;(with_reducible exact bT (xi Q _ _ _ OD _ (Td.below (ZW _ _ _)) KZ hhd.out)))
    | (go_at_call 221;(with_reducible exact bT (sF _ L2 KZ _ okd rhd Lh.out)))))))
  refine bF (θ4 KJ JZ Td Iz) ?_;clear Rr;rintro v3 ⟨KK,J0,Xo,ID⟩ Rr;replace IT:=(aj.c0 J0);clear q Jh KJ JZ Td;refine aj.sdu J0 L2 (.tmp 41) (.tmp 39) ρr ρr ρr ρr ?_;intro v4 J1 kx zx;have Nh:=KK.ko kx τR;have VP:=Xo.ko kx κt;have IC:KO (λy=>y=b) w v4:=ID.trans kx σh;replace Rr:=Nh.r;replace IT:=(aj.c0 J1);replace I5:=((aj.c1 J1).trans ρw);replace Kq:=(aj.c36 J1);replace UD:=(aj.c37 J1);have H4:=H.entTo hc hb (x:={s.e i with du:=L2}) Jj.out IC τo ⟨J1,ob,by unfold dQ;rw[ZP QP];exact⟨Q,OD,rfl,VP,ND.out⟩,⟨Qo.1,Qo.2.1,Qo.2.2,ok.out.2.2.2⟩⟩;have Ys:KO (λx=>(o x).mine) w v4:=IC.mono σO;have V4:=V'.ko IC σ5;clear kx zx IC X';have IC:=Ys;clear Ys;go_wp2_with fail;refine bS (θ6 IC H4 V4 Nh J1 VP) ?_;clear Rr;rintro v5 ⟨IN,H5,V5,Ln,JO,YZ⟩ Rr;replace IT:=(aj.c0 JO);replace I5:=((aj.c1 JO).trans ρw);replace Kq:=(aj.c36 JO);replace UD:=(aj.c37 JO);have q:=af Ln;have Jh:=λd os=>(aj.c0 (JO.below (ZW _ d os)));have Jt:=λd os=>((aj.c1 (JO.below (ZW _ d os))).trans ρw);have MI:=λd os=>(aj.c36 (JO.below (ZW _ d os)));have qX'3:=λd os=>(aj.c37 (JO.below (ZW _ d os)));refine Ws 19 (gw ?_);refine bF (θ6 H5 V5 Ln JO YZ IN) ?_;clear Rr;rintro v6 ⟨H6,V6,Nx,KC,Q'6,IQ⟩ Rr;replace IT:=(aj.c0 KC);replace I5:=((aj.c1 KC).trans ρw);replace Kq:=(aj.c36 KC);replace UD:=(aj.c37 KC);clear q Jh Jt MI qX'3 H5 V5 Ln JO YZ;go_wp2_with fail;refine(xZ a.LV s.lv Sj i L2.e L2.t (s.L.map CD.id) _ V6 Qo.2.1 Qo.2.2 (λj hj=>iZ ((Kf.out j hj).imp λc h=>h.1)) (by rw[pf];have:=W.len;omega)).mono ?_;rintro e v7 ⟨rfl,TT⟩;have H7:=H6.lvTo Pm.out TT;obtain⟨fp7,TA,hfp7,kx⟩:=TT;have Q'7:=Q'6.ko kx (λy hy f=>by have h1:=ND.out y hy;rw[Pm.out y f] at h1;cases h1);have Rw:=Nx.ko kx (λf=>by rw[Pm.out _ f] at oS;cases oS);have Nz:=KC.ko kx (λf=>by rw[Pm.out _ f] at ob;cases ob);have z6:=IQ.size;have Yf:∀x,x<w.heap.size->o.more v6 .lv x=o x:=λx hx=>aT.more_lt ρa;have I8:=IQ.trans kx τD;have z7:=kx.size;clear kx H6 V6;have lX0:=aj.c0 Nz;have lX1:=(aj.c1 Nz).trans ρw;have Ss:=Rw.r;obtain⟨n,hn⟩:=Nq ((s.e i).q.length);go_wp2_with fail;refine(sJ Q _ _ _ OD _ Q'7).mono ?_;rintro e u ⟨rfl,rfl⟩;rw[hn];by_cases h0:n=0
  ·subst h0;have Ly:(s.e i).q=[]:=List.length_eq_zero_iff.1 hn;have he:s.due i len false={(s.setE i {s.e i with du:=L2}) with lv:=aJ (aJ s.lv i (some (L2.e,L2.t))) i none}:=tL OP.out κx Ly;change Hid _ at Ly he;go_wp2_with fail;have TA7:=TA;clear TA;refine bS (θ5 I8 H7 TA7 Rw Nz) ?_;clear Rr Ss;rintro v8 ⟨Je,H8,TA8,Qe,NA⟩ Rr;replace IT:=(aj.c0 NA);replace I5:=((aj.c1 NA).trans ρw);have q:=af Qe;have Jh:=λd os=>(aj.c0 (NA.below (ZW _ d os)));have Jt:=λd os=>((aj.c1 (NA.below (ZW _ d os))).trans ρw);refine Ws 9 (gw ?_);refine bF (θ5 H8 TA8 Qe NA Je) ?_;clear Rr;rintro v9 ⟨H9,TA9,S'9,X'9,Jl⟩ Rr;replace IT:=(aj.c0 X'9);replace I5:=((aj.c1 X'9).trans ρw);clear q Jh Jt H8 TA8 Qe NA;go_wp2_with fail;refine(sX a.LV _ fp7 i (i::s.L.map CD.id) _ TA9 (λj hj=>by by_cases e:j=i;(· rw[e];simp);(· refine rt _ (iZ ((Kf.out j ?_).imp λc h=>h.1));unfold aJ at hj;rw[ZI e] at hj;exact hj)) (by simp;have:=W.len;omega)).mono ?_;rintro e Lj ⟨er,rfl,TT⟩;have hf7:∀x,fp7 x->o.more v6 .lv x=.lv:=λx hx=>by
    rcases Nat.lt_or_ge x v6 with hl|hl
    ·rw[aT.more_lt hl];rcases hfp7 x hx with g|g;exact Pm.out x g;omega
    ·exact aT.more_ge hl
   have SX:=H9.lvTo hf7 TT;obtain⟨fp10,_,_,kx⟩:=TT;have z9:=Jl.size;have I7:=Jl.trans kx κn;go_wp2_with fail;go_end0;rw[he.out];exact⟨rfl,_,SX.below ρE,λx hx=>(aT.more_lt ρa).trans (Yf x hx),I7.step0 ρE⟩
  ·have IG:((n:Int)==0)=false:=by rw[ZN];omega
   have he:s.due i len false={(s.setE i {s.e i with du:=L2}) with lv:=aJ s.lv i (some (L2.e,L2.t))}:=pE OP.out κx (λe=>by rw[e] at hn;simp at hn;omega);change Hid _ at he hn;go_wp2_with fail;go_end0;rw[he.out];exact⟨rfl,_,H7.below ρE,Yf,I8.step0 ρE⟩
 ·simp only[if_true] at Lh;have Lh:=ag Lh;go_wp2_with fail;refine bS (θ4 F' JE JS UX) ?_;clear Rr;rintro v2 ⟨Iz,KJ,JZ,Td⟩ Rr;replace IT:=(aj.c0 JZ);have q:=af KJ;have Jh:=λd os=>(aj.c0 (JZ.below (ZW _ d os)));refine Ws 14 (mw ?_)
  repeat (first
   | (refine aj.qdu JZ (.tmp 18) ρr ρr ρr ?_;(try simp only[Act.put,List.setIfInBounds_toArray,List.set_cons_succ,List.set_cons_zero]))
   | (go_big_quiet_step ((first
    | (go_at_call 220;(with_reducible exact bT (xi Q _ _ _ OD _ (Td.below (ZW _ _ _)) KZ hhd.out)))
    | (go_at_call 219;(with_reducible exact bT (yg _ L2 len KZ _ okd IS rhd Lh.out)))))))
  refine bF (θ4 KJ JZ Td Iz) ?_;clear Rr;rintro v3 ⟨KK,J0,Xo,ID⟩ Rr;replace IT:=(aj.c0 J0);clear q Jh KJ JZ Td;refine aj.sdu J0 L2 (.tmp 28) (.tmp 26) ρr ρr ρr ρr ?_;intro v4 J1 kx zx;have Nh:=KK.ko kx τR;have VP:=Xo.ko kx κt;have IC:KO (λy=>y=b) w v4:=ID.trans kx σh;replace Rr:=Nh.r;replace IT:=(aj.c0 J1);replace I5:=((aj.c1 J1).trans ρw);replace Kq:=(aj.c36 J1);replace UD:=(aj.c37 J1);have H4:=H.entTo hc hb (x:={s.e i with du:=L2}) Jj.out IC τo ⟨J1,ob,by unfold dQ;rw[ZP QP];exact⟨Q,OD,rfl,VP,ND.out⟩,⟨Qo.1,Qo.2.1,Qo.2.2,ok.out.2.2.2⟩⟩;have Ys:KO (λx=>(o x).mine) w v4:=IC.mono σO;have V4:=V'.ko IC σ5;clear kx zx IC X';have IC:=Ys;clear Ys;go_wp2_with fail;refine bS (θ6 IC H4 V4 Nh J1 VP) ?_;clear Rr;rintro v5 ⟨IN,H5,V5,Ln,JO,YZ⟩ Rr;replace IT:=(aj.c0 JO);replace I5:=((aj.c1 JO).trans ρw);replace Kq:=(aj.c36 JO);replace UD:=(aj.c37 JO);have q:=af Ln;have Jh:=λd os=>(aj.c0 (JO.below (ZW _ d os)));have Jt:=λd os=>((aj.c1 (JO.below (ZW _ d os))).trans ρw);have MI:=λd os=>(aj.c36 (JO.below (ZW _ d os)));have qX'3:=λd os=>(aj.c37 (JO.below (ZW _ d os)));refine Ws 19 (gw ?_);refine bF (θ6 H5 V5 Ln JO YZ IN) ?_;clear Rr;rintro v6 ⟨H6,V6,Nx,KC,Q'6,IQ⟩ Rr;replace IT:=(aj.c0 KC);replace I5:=((aj.c1 KC).trans ρw);replace Kq:=(aj.c36 KC);replace UD:=(aj.c37 KC);clear q Jh Jt MI qX'3 H5 V5 Ln JO YZ;go_wp2_with fail;refine(xZ a.LV s.lv Sj i L2.e L2.t (s.L.map CD.id) _ V6 Qo.2.1 Qo.2.2 (λj hj=>iZ ((Kf.out j hj).imp λc h=>h.1)) (by rw[pf];have:=W.len;omega)).mono ?_;rintro e v7 ⟨rfl,TT⟩;have H7:=H6.lvTo Pm.out TT;obtain⟨fp7,TA,hfp7,kx⟩:=TT;have Q'7:=Q'6.ko kx (λy hy f=>by have h1:=ND.out y hy;rw[Pm.out y f] at h1;cases h1);have Rw:=Nx.ko kx (λf=>by rw[Pm.out _ f] at oS;cases oS);have Nz:=KC.ko kx (λf=>by rw[Pm.out _ f] at ob;cases ob);have z6:=IQ.size;have Yf:∀x,x<w.heap.size->o.more v6 .lv x=o x:=λx hx=>aT.more_lt ρa;have I8:=IQ.trans kx τD;have z7:=kx.size;clear kx H6 V6;have lX0:=aj.c0 Nz;have lX1:=(aj.c1 Nz).trans ρw;have Ss:=Rw.r;obtain⟨n,hn⟩:=Nq ((s.e i).q.length);go_wp2_with fail;refine(sJ Q _ _ _ OD _ Q'7).mono ?_;rintro e u ⟨rfl,rfl⟩;rw[hn];by_cases h0:n=0
  ·subst h0;have Ly:(s.e i).q=[]:=List.length_eq_zero_iff.1 hn;have he:s.due i len true={(s.setE i {s.e i with du:=L2}) with lv:=aJ (aJ s.lv i (some (L2.e,L2.t))) i none}:=tL OP.out κx Ly;change Hid _ at Ly he;go_wp2_with fail;have TA7:=TA;clear TA;refine bS (θ5 I8 H7 TA7 Rw Nz) ?_;clear Rr Ss;rintro v8 ⟨Je,H8,TA8,Qe,NA⟩ Rr;replace IT:=(aj.c0 NA);replace I5:=((aj.c1 NA).trans ρw);have q:=af Qe;have Jh:=λd os=>(aj.c0 (NA.below (ZW _ d os)));have Jt:=λd os=>((aj.c1 (NA.below (ZW _ d os))).trans ρw);refine Ws 9 (gw ?_);refine bF (θ5 H8 TA8 Qe NA Je) ?_;clear Rr;rintro v9 ⟨H9,TA9,S'9,X'9,Jl⟩ Rr;replace IT:=(aj.c0 X'9);replace I5:=((aj.c1 X'9).trans ρw);clear q Jh Jt H8 TA8 Qe NA;go_wp2_with fail;refine(sX a.LV _ fp7 i (i::s.L.map CD.id) _ TA9 (λj hj=>by by_cases e:j=i;(· rw[e];simp);(· refine rt _ (iZ ((Kf.out j ?_).imp λc h=>h.1));unfold aJ at hj;rw[ZI e] at hj;exact hj)) (by simp;have:=W.len;omega)).mono ?_;rintro e Lj ⟨er,rfl,TT⟩;have hf7:∀x,fp7 x->o.more v6 .lv x=.lv:=λx hx=>by
    rcases Nat.lt_or_ge x v6 with hl|hl
    ·rw[aT.more_lt hl];rcases hfp7 x hx with g|g;exact Pm.out x g;omega
    ·exact aT.more_ge hl
   have SX:=H9.lvTo hf7 TT;obtain⟨fp10,_,_,kx⟩:=TT;have z9:=Jl.size;have I7:=Jl.trans kx κn;go_wp2_with fail;go_end0;rw[he.out];exact⟨rfl,_,SX.below ρE,λx hx=>(aT.more_lt ρa).trans (Yf x hx),I7.step0 ρE⟩
  ·have IG:((n:Int)==0)=false:=by rw[ZN];omega
   have he:s.due i len true={(s.setE i {s.e i with du:=L2}) with lv:=aJ s.lv i (some (L2.e,L2.t))}:=pE OP.out κx (λe=>by rw[e] at hn;simp at hn;omega);change Hid _ at he hn;go_wp2_with fail;go_end0;rw[he.out];exact⟨rfl,_,H7.below ρE,Yf,I8.step0 ρE⟩
end Go.Proofs.YtfdlemkplejdnaaGreat
