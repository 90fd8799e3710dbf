/- WholeLatest, part 21. Conditions: none. -/
import Derived.Test.YtfdlemkplejdnaaGreatA10
import Derived.Test.YtfdlemkplejdnaaGreatA15
import Derived.Test.YtfdlemkplejdnaaGreatA18
import Derived.Test.YtfdlemkplejdnaaGreatA19
namespace Go.Proofs.YtfdlemkplejdnaaGreat
open Go.RowKit Go.Sort
open Value renaming int->ι,pointer->ψ,slice->ζ,tuple->χ,agg->φ,map->μ,bool->β
open IntKind renaming u64->υ,i64->ε,u16->ω
open Ending renaming returned->ϰ
open Go.Proofs.Tryz renaming prog->Ψ,underlying3->Θ,underlying147->Δ,underlying152->Γ,underlying202->Φ,underlying39->Ξ,underlying207->Ω
open Go renaming World->ϖ,Value->ϗ
set_option linter.unusedVariables false
set_option linter.unusedSimpArgs false
set_option maxHeartbeats 8000000
set_option maxRecDepth 100000
def Iq:LF:=⟨false,⟨⟨0,0,0⟩,⟨0,0,0⟩,false⟩,⟨⟨0,0,0⟩,⟨0,0,0⟩,false⟩,0,0,0⟩
structure EN where
 (c:CD)
 (tot:Int)
 (du:LF)
 (sh cp:CH)
 (q:List PK)
def ep (c:CD):EN:=⟨c,0,Iq,CH.zero,CH.zero,[]⟩
structure SS where
 (T Lm:Int)
 (L:List CD)
 (e:Int->EN)
 (A:AS)
 (lv:TM)
 (kd:Int->TM)
 (clk acc:Int)
def nk:TM:=λ_=>none
open Classical in
noncomputable def fitT (m:TM):Int:=if h:∃v,iv m Mc v then h.choose else Mc
open Classical in
noncomputable def kD (m:TM):Int:=if h:∃v,jb m v true then h.choose else 0
theorem tT {m:TM} {d v u:Int} (h:iv m d v)(k:iv m d u):v=u:=ξ5
theorem uY {m:TM} {v:Int} (h:iv m Mc v):fitT m=v:=by unfold fitT;rw[dif_pos ⟨v,h⟩];exact tT (Classical.choose_spec (⟨v,h⟩:∃v,iv m Mc v)) h
theorem BH {m:TM} {v:Int} {ok:Bool} (h:jb m v ok):kD m=v:=by
 cases ok with
 | false=>obtain⟨h1,h2⟩:=h;unfold kD;rw[dif_neg (λ⟨u,⟨j,q,hq,_⟩,_⟩=>by rw[h2 j] at hq;cases hq)];exact h1.symm
 | true=>
  unfold kD;rw[dif_pos ⟨v,h⟩];have one:∀u,jb m u true->u=v:=by rintro u ⟨⟨j',q',Ty,k1⟩,k2⟩;obtain⟨⟨j,q,hq,h1⟩,h2⟩:=h;have:=h2 j' q' Ty;have:=k2 j q hq;omega
  exact one _ (Classical.choose_spec (⟨v,h⟩:∃v,jb m v true))
namespace SS
def real (c:CD):Bool:=dv (Go.Proofs.YtfdlemkplejdnaaGreat.kd c.r0 c.r1 c.r2)
noncomputable def fit (s:SS) (i:Int):Int:=if (s.e i).c.lf=true\/s.A.is i=false then (s.e i).cp.t else max (s.e i).cp.t (fitT (s.kd i))
noncomputable def settle1 (s:SS) (i:Int):SS:=if s.A.is i=true then {s with kd:=ay s.kd (s.e i).c.par (aP (s.kd (s.e i).c.par) i (some ((s.e i).sh.t,s.fit i)))} else s
noncomputable def settle (s:SS) (xs:List Int):SS:=xs.foldl settle1 s
def setE (s:SS)(i:Int)(x:EN):SS:={s with e:=ay s.e i x}
noncomputable def wake1 (now:Int) (s:SS) (i:Int):SS:=
 s.setE i {s.e i with sh:=(s.e i).sh.wake (s.e i).c.l0 (s.e i).c.l1 (s.e i).c.l2 (kD (s.kd (s.e i).c.par)) (s.e i).tot,cp:=(s.e i).cp.capped (s.e i).c.u0 (s.e i).c.u1 (s.e i).c.u2 now (s.e i).tot}
def duesTo (s:SS)(i:Int)(l:LF):SS:={s.setE i {s.e i with du:=l} with lv:=aP s.lv i (some (l.e,l.t))}
noncomputable def wakeS (s:SS) (now:Int) (i:Int) (up:List Int):SS:=
 settle ((bo s.A.K up).1.foldl (wake1 now) {s with A:=⟨ay s.A.on i true,(bo s.A.K up).2⟩}) up
noncomputable def wake (s:SS) (now:Int) (i h:Int) (up:List Int):SS:=
 let s1:=if real (s.e i).c then s.duesTo i (((s.e i).du.woke (s.e i).c.r0 (s.e i).c.r1 (s.e i).c.r2 now).headed h) else s
 if eZ (s.e i).c then s1.wakeS now i up else s1
def told (s:SS)(now:Int):Bool:=decide (s.clk<=now) && decide (now<=4611686018427387904)
noncomputable def put (s:SS) (now i:Int) (p:PK) (up:List Int):Int × SS:=
 if s.told now=false then (27,s) else
 let s:={s with clk:=now}
 match fc s.L i with
 | none=>(23,s)
 | some c=>
  if c.lf=false then (29,s) else
  if p.len<1\/s.Lm<p.len then (26,s) else
  if 1099511627776<s.acc+p.len then (28,s) else
  if c.by_ - aA (s.e i).q<p.len\/(s.e i).q.length=c.pk.toNat then (30,s) else
  let s1:={s.setE i {s.e i with q:=(s.e i).q++[p]} with acc:=s.acc+p.len}
  if (s.e i).q=[] then (0,s1.wake now i p.len up) else (0,s1)
inductive Chain (s:SS) (now:Int):Int->Option Int->Prop
 | none {i:Int}:nH (s.kd i) (min now Mb) 0 false->Chain s now i none
 | leaf {i j:Int}:nH (s.kd i) (min now Mb) j true->(s.e j).c.lf=true->Chain s now i (some j)
 | inner {i j:Int} {r:Option Int}:nH (s.kd i) (min now Mb) j true->(s.e j).c.lf=false->Chain s now j r->Chain s now i r
def Choose (s:SS)(now:Int)(r:Option (Int × Bool)):Prop:=
 (∃i,uT s.lv (min now Mb) i true/\r=some (i,true))\/uT s.lv (min now Mb) 0 false/\((∃i,Chain s now 0 (some i)/\r=some (i,false))\/(Chain s now 0 none/\r=none))
def take1 (len:Int)(s:SS)(i:Int):SS:=
 s.setE i {s.e i with tot:=(s.e i).tot+len,sh:=(s.e i).sh.took ((s.e i).tot+len),cp:=(s.e i).cp.fit ((s.e i).tot+len)}
def due (s:SS)(i len:Int)(byReal:Bool):SS:=
 if real (s.e i).c then
  let l:=if byReal then (s.e i).du.took len (aw (s.e i).q) else (s.e i).du.headed (aw (s.e i).q)
  let s1:=s.duesTo i l
  if (s.e i).q=[] then {s1 with lv:=aP s1.lv i none} else s1
 else s
open Classical in
noncomputable def sleep1 (s:SS) (i:Int):SS:=
 let p:=(s.e i).c.par
 {s with kd:=ay s.kd p (aP (s.kd p) i none),e:=if ∀j,aP (s.kd p) i none j=none then (λj=>if (fc s.L j).isSome=true/\(s.e j).c.par=p then {s.e j with sh:=CH.zero} else s.e j) else s.e}
noncomputable def sleep (s:SS) (i:Int) (up:List Int):SS:=if eZ (s.e i).c=true/\s.A.is i=true then (aS s.A.K up).1.foldl sleep1 {s with A:=⟨ay s.A.on i false,(aS s.A.K up).2⟩} else s
noncomputable def take (s:SS) (now i:Int) (byReal:Bool) (up:List Int):SS:=
 let s0:={s with clk:=now}
 let len:=aw (s.e i).q
 let s1:=up.foldl (take1 len) (s0.setE i {s.e i with q:=(s.e i).q.tail})
 let s2:=s1.due i len byReal
 let s3:=if (s2.e i).q=[] then s2.sleep i up else s2
 s3.settle up
end SS
abbrev pe (x:EN)(qv:ϗ):Array ϗ:=#[qv,ι ε x.c.id,ι ε x.c.par,β x.c.lf,ι υ x.c.r0,ι υ x.c.r1,ι υ x.c.r2,ι υ x.c.l0,ι υ x.c.l1,ι υ x.c.l2,ι υ x.c.u0,ι υ x.c.u1,ι υ x.c.u2,ι ε x.c.pk,ι ε x.c.by_,ι υ x.tot,β x.du.has,ι υ x.du.D.f.X,ι υ (hi (x.du.D.f.Y)),ι υ (lo (x.du.D.f.Y)),ι υ x.du.D.f.M,ι υ x.du.D.t.X,ι υ (hi (x.du.D.t.Y)),ι υ (lo (x.du.D.t.Y)),ι υ x.du.D.t.M,β x.du.D.b,ι υ x.du.E.f.X,ι υ (hi (x.du.E.f.Y)),ι υ (lo (x.du.E.f.Y)),ι υ x.du.E.f.M,ι υ x.du.E.t.X,ι υ (hi (x.du.E.t.Y)),ι υ (lo (x.du.E.t.Y)),ι υ x.du.E.t.M,β x.du.E.b,ι υ x.du.p,ι υ x.du.e,ι υ x.du.t,β x.sh.has,ι υ x.sh.r.f.X,ι υ (hi (x.sh.r.f.Y)),ι υ (lo (x.sh.r.f.Y)),ι υ x.sh.r.f.M,ι υ x.sh.r.t.X,ι υ (hi (x.sh.r.t.Y)),ι υ (lo (x.sh.r.t.Y)),ι υ x.sh.r.t.M,β x.sh.r.b,ι υ x.sh.t,β x.cp.has,ι υ x.cp.r.f.X,ι υ (hi (x.cp.r.f.Y)),ι υ (lo (x.cp.r.f.Y)),ι υ x.cp.r.f.M,ι υ x.cp.r.t.X,ι υ (hi (x.cp.r.t.Y)),ι υ (lo (x.cp.r.t.Y)),ι υ x.cp.r.t.M,β x.cp.r.b,ι υ x.cp.t]
def EN.ok (x:EN):Prop:=x.du.ok/\(0<=x.du.e/\x.du.e<=Ma)/\(0<=x.du.t/\x.du.t<=Ma)/\x.sh.ok/\(0<=x.sh.t/\x.sh.t<=Ma)/\x.cp.ok/\(0<=x.cp.t/\x.cp.t<=Ma)/\(0<=x.tot/\x.tot<=2199023255552)
def ed (o:aU)(w:ϖ)(i:Int)(x:EN)(qv:ϗ):Prop:=if x.c.lf=true then ∃Q fp,qv=ψ (some ⟨Q,0,none⟩)/\aW w Q x.c.by_ x.c.pk.toNat x.q fp/\∀k,fp k->o k=.qu i else qv=Kp
def ij (o:aU)(w:ϖ)(i:Int)(b:Nat)(qv:ϗ)(x:EN):Prop:=ah w b (pe x qv) 244/\o b=.en i/\ed o w i x qv/\x.ok
theorem ed.ko {o:aU} {w v:ϖ} {i:Int} {x:EN} {qv:ϗ} {F:Nat->Prop} (h:ed o w i x qv)(k:KO F w v)(hF:∀b,o b=.qu i->¬F b):ed o v i x qv:=by
 unfold ed at h ⊢;split
 ·rename_i hl;rw[qP hl] at h;obtain⟨Q,fp,h1,h2,h3⟩:=h;exact⟨Q,fp,h1,h2.ko k (λb hb=>hF b (h3 b hb)),h3⟩
 ·rename_i hl;rw[qI hl] at h;exact h
theorem ed.below {o:aU} {w v:ϖ} {i:Int} {x:EN} {qv:ϗ} (h:ed o w i x qv)(k:Below w w v):ed o v i x qv:=h.ko (KO.of_below (F:=λ_=>False) k) (λ_ _ f=>f)
instance {o w i x qv}:Mv (ed o w i x qv) w (λv'=>ed o v' i x qv):=⟨λk h=>ed.below h k⟩
theorem ed.own {o o':aU} {w:ϖ} {i:Int} {x:EN} {qv:ϗ} (h:ed o w i x qv)(e:∀b,b<w.heap.size->o' b=o b):ed o' w i x qv:=by
 unfold ed at h ⊢;split
 ·rename_i hl;rw[qP hl] at h;obtain⟨Q,fp,h1,h2,h3⟩:=h;refine⟨Q,fp,h1,h2,λb hb=>(e b ?_).trans (h3 b hb)⟩;obtain⟨R,S,f,ps,k0,k1,k2,k3,k4,k5,_,_,_,_,_,_,_,_,h9⟩:=h2;exact h9 b hb
 ·rename_i hl;rw[qI hl] at h;exact h
theorem ij.ko {o:aU} {w v:ϖ} {i:Int} {b:Nat} {qv:ϗ} {x:EN} {F:Nat->Prop} (h:ij o w i b qv x)(k:KO F w v)(hF:∀b,o b=.en i\/o b=.qu i->¬F b):ij o v i b qv x:=⟨h.1.ko k (hF b (.inl h.2.1)),h.2.1,h.2.2.1.ko k (λb hb=>hF b (.inr hb)),h.2.2.2⟩
theorem ij.own {o o':aU} {w:ϖ} {i:Int} {b:Nat} {qv:ϗ} {x:EN} (h:ij o w i b qv x)(e:∀b,b<w.heap.size->o' b=o b):ij o' w i b qv x:=⟨h.1,(e b h.1.size).trans h.2.1,h.2.2.1.own e,h.2.2.2⟩
def bm (J:Int->Prop)(o:aU)(w:ϖ)(L:List CD)(e:Int->EN)(LB:List (Int × ϗ)):Prop:=∃(P:Int->Nat)(V:Int->ϗ),∀i,match fc L i with
 | none=>lk i LB=none
 | some c=>lk i LB=some (ψ (some ⟨P i,0,none⟩))/\(e i).c=c/\(¬J i->ij o w i (P i) (V i) (e i))
abbrev bO (o:aU)(w:ϖ)(L:List CD)(e:Int->EN)(LB:List (Int × ϗ)):Prop:=bm (λ_=>False) o w L e LB
section
variable {J:Int->Prop} {o o':aU} {w v:ϖ} {L:List CD} {e:Int->EN} {LB:List (Int × ϗ)} {F:Nat->Prop} {i:Int} {c:CD}
theorem bm.ko (h:bm J o w L e LB)(k:KO F w v)(hF:∀b i,¬J i->(o b=.en i\/o b=.qu i)->¬F b):bm J o v L e LB:=by
 obtain⟨P,V,h3⟩:=h;refine⟨P,V,λi=>?_⟩;have:=h3 i;split<;>rename_i hc<;>rw[hc] at this
 ·exact this
 ·exact⟨this.1,this.2.1,λhJ=>(this.2.2 hJ).ko k (λb hb=>hF b i hJ hb)⟩
theorem bm.below (h:bm J o w L e LB)(k:Below w w v):bm J o v L e LB:=h.ko (KO.of_below (F:=λ_=>False) k) (λ_ _ _ _ f=>f)
instance {J o w L e LB}:Mv (bm J o w L e LB) w (λv'=>bm J o v' L e LB):=⟨λk h=>bm.below h k⟩
theorem bm.own (h:bm J o w L e LB)(he:∀b,b<w.heap.size->o' b=o b):bm J o' w L e LB:=by
 obtain⟨P,V,h3⟩:=h;refine⟨P,V,λi=>?_⟩;have:=h3 i;split<;>rename_i hc<;>rw[hc] at this
 ·exact this
 ·exact⟨this.1,this.2.1,λhJ=>(this.2.2 hJ).own he⟩
theorem bm.out (h:bO o w L e LB)(hc:fc L i=some c):∃b qv,lk i LB=some (ψ (some ⟨b,0,none⟩))/\(e i).c=c/\ij o w i b qv (e i)/\bm (λj=>j=i) o w L e LB:=by
 obtain⟨P,V,h3⟩:=h;have hi:=h3 i;rw[hc] at hi;refine⟨P i,V i,hi.1,hi.2.1,hi.2.2 (λf=>f),P,V,λj=>?_⟩;have:=h3 j;split<;>rename_i hj<;>rw[hj] at this
 ·exact this
 ·exact⟨this.1,this.2.1,λ_=>this.2.2 (λf=>f)⟩
theorem bm.back {b:Nat} {qv:ϗ} {x:EN} (h:bm (λj=>j=i) o w L e LB)(hc:fc L i=some c)(hb:lk i LB=some (ψ b))(hx:x.c=c)(k:ij o w i b qv x):bO o w L (ay e i x) LB:=by
 obtain⟨P,V,h3⟩:=h;refine⟨λj=>if j=i then b else P j,λj=>if j=i then qv else V j,λj=>?_⟩;have kj:=h3 j;by_cases e1:j=i
 ·subst e1;rw[hc];unfold ay;simp only[qP];exact⟨hb,hx,λ_=>k⟩
 ·split<;>rename_i hj<;>rw[hj] at kj
  ·exact kj
  ·unfold ay;simp only[qI e1];exact⟨kj.1,kj.2.1,λ_=>kj.2.2 e1⟩
end
def bT (L:List CD)(p:Int):Bool:=decide (p=0) || match fc L p with
 | some c=>!c.lf
 | none=>false
def dh (J:Int->Prop)(o:aU)(w:ϖ)(L:List CD)(kd:Int->TM)(LB:List (Int × ϗ)):Prop:=∃(P:Int->Nat),∀p,bT L p=true->lk p LB=some (ψ (some ⟨P p,0,none⟩))/\(¬J p->∃fp,aQ 211 w (P p) (kd p) fp/\∀x,fp x->o x=.kd p)
abbrev dF (o:aU)(w:ϖ)(L:List CD)(kd:Int->TM)(LB:List (Int × ϗ)):Prop:=dh (λ_=>False) o w L kd LB
theorem aQ.lt {ty:TypeId} {w:ϖ} {B:Nat} {m:TM} {fp:Nat->Prop} (h:aQ ty w B m fp) {x:Nat} (hx:fp x):x<w:=by obtain⟨T,M,t,L,h1,h2,h3,h4,h5,h6,h7,h8,h9⟩:=h;exact h9 x hx
section
variable {J:Int->Prop} {o o':aU} {w v:ϖ} {L:List CD} {kd:Int->TM} {LB:List (Int × ϗ)} {F:Nat->Prop} {p:Int}
theorem dh.ko (h:dh J o w L kd LB)(k:KO F w v)(hF:∀b p,¬J p->o b=.kd p->¬F b):dh J o v L kd LB:=by obtain⟨P,h3⟩:=h;refine⟨P,λp hp=>⟨(h3 p hp).1,λhJ=>?_⟩⟩;obtain⟨fp,g1,g2⟩:=(h3 p hp).2 hJ;exact⟨fp,g1.ko k (λx hx=>hF x p hJ (g2 x hx)),g2⟩
theorem dh.below (h:dh J o w L kd LB)(k:Below w w v):dh J o v L kd LB:=h.ko (KO.of_below (F:=λ_=>False) k) (λ_ _ _ _ f=>f)
instance {J o w L kd LB}:Mv (dh J o w L kd LB) w (λv'=>dh J o v' L kd LB):=⟨λk h=>dh.below h k⟩
theorem dh.own (h:dh J o w L kd LB)(he:∀b,b<w.heap.size->o' b=o b):dh J o' w L kd LB:=by obtain⟨P,h3⟩:=h;refine⟨P,λp hp=>⟨(h3 p hp).1,λhJ=>?_⟩⟩;obtain⟨fp,g1,g2⟩:=(h3 p hp).2 hJ;exact⟨fp,g1,λx hx=>(he x (g1.lt hx)).trans (g2 x hx)⟩
theorem dh.out (h:dF o w L kd LB)(hp:bT L p=true):∃b fp,lk p LB=some (ψ (some ⟨b,0,none⟩))/\aQ 211 w b (kd p) fp/\(∀x,fp x->o x=.kd p)/\dh (λj=>j=p) o w L kd LB:=by obtain⟨P,h3⟩:=h;obtain⟨g1,g2⟩:=h3 p hp;obtain⟨fp,g3,g4⟩:=g2 (λf=>f);exact⟨P p,fp,g1,g3,g4,P,λq hq=>⟨(h3 q hq).1,λ_=>(h3 q hq).2 (λf=>f)⟩⟩
theorem dh.back {b:Nat} {m:TM} {fp:Nat->Prop} (h:dh (λj=>j=p) o w L kd LB)(hb:lk p LB=some (ψ b))(t:aQ 211 w b m fp)(hf:∀x,fp x->o x=.kd p):dF o w L (ay kd p m) LB:=by
 obtain⟨P,h3⟩:=h;refine⟨λj=>if j=p then b else P j,λq hq=>?_⟩;by_cases e1:q=p
 ·subst e1;unfold ay;simp only[qP];exact⟨hb,λ_=>⟨fp,t,hf⟩⟩
 ·obtain⟨j1,j2⟩:=h3 q hq;unfold ay;simp only[qI e1];exact⟨j1,λ_=>j2 e1⟩
end
def eD (o:aU)(w:ϖ)(LV:Nat)(m:TM):Prop:=∃fp,aQ 209 w LV m fp/\∀x,fp x->o x=.lv
theorem eD.ko {o:aU} {w v:ϖ} {LV:Nat} {m:TM} {F:Nat->Prop} (h:eD o w LV m)(k:KO F w v)(hF:∀b,o b=.lv->¬F b):eD o v LV m:=by obtain⟨fp,h1,h2⟩:=h;exact⟨fp,h1.ko k (λx hx=>hF x (h2 x hx)),h2⟩
theorem eD.below {o:aU} {w v:ϖ} {LV:Nat} {m:TM} (h:eD o w LV m)(k:Below w w v):eD o v LV m:=h.ko (KO.of_below (F:=λ_=>False) k) (λ_ _ f=>f)
instance {o w LV m}:Mv (eD o w LV m) w (λv'=>eD o v' LV m):=⟨λk h=>eD.below h k⟩
theorem eD.own {o o':aU} {w:ϖ} {LV:Nat} {m:TM} (h:eD o w LV m)(e:∀b,b<w.heap.size->o' b=o b):eD o' w LV m:=by obtain⟨fp,h1,h2⟩:=h;exact⟨fp,h1,λx hx=>(e x (h1.lt hx)).trans (h2 x hx)⟩
theorem eD.to {o:aU} {w w':ϖ} {LV:Nat} {m m':TM} {fp:Nat->Prop} (h1:∀x,fp x->o x=.lv)(h:fg 209 w w' LV m' fp):eD (λx=>if x<w.heap.size then o x else .lv) w' LV m':=by
 obtain⟨Oj,h2,h3,h4⟩:=h;refine⟨Oj,h2,λx hx=>?_⟩;simp only[];split
 ·rename_i Ku;rcases h3 x hx with g|g
  ·exact h1 x g
  ·omega
 ·rfl
structure Ad where
 (S T M BY ON A O C LV KM:Nat)
 (LB LM:List (Int × ϗ))
def ar (o:aU)(w:ϖ)(a:Ad)(s:SS):Prop:=ah w a.S #[ι ε s.T,ι ε s.Lm,a.T,.map (some a.BY),a.ON,a.LV,.map (some a.KM),s.clk,s.acc] 155/\
 aF w a.T a.M s.L/\aB w a.BY a.LB/\bO o w s.L s.e a.LB/\de o w a.ON a.A a.O a.C s.L s.A/\eD o w a.LV s.lv/\aB w a.KM a.LM/\dF o w s.L s.kd a.LM/\o a.S=.sy/\o a.T=.tr/\o a.M=.tr/\o a.BY=.by_/\o a.KM=.km
theorem de.ko {o:aU} {w v:ϖ} {B A O C:Nat} {L:List CD} {S:AS} {F:Nat->Prop} (h:de o w B A O C L S)(k:KO F w v)(hF:∀x,(o x).act\/o x=.ac\/o x=.ab->¬F x):de o v B A O C L S:=by obtain⟨B',⟨LB,A',hA⟩,⟨LO,O',hO⟩,⟨LK,C',KF⟩,oB,oA,oO,oC⟩:=h;exact⟨B'.ko k (hF _ (.inr (.inl oB))),⟨LB,A'.ko k (hF _ (.inr (.inr oA))),hA⟩,⟨LO,O'.ko k (hF _ (.inl (by rw[oO];trivial))),hO⟩,⟨LK,C'.ko k (hF _ (.inl (by rw[oC];trivial))),KF.ko k (λx l p _ e=>hF x (.inl (by rw[e];trivial)))⟩,oB,oA,oO,oC⟩
theorem de.below {o:aU} {w v:ϖ} {B A O C:Nat} {L:List CD} {S:AS} (h:de o w B A O C L S)(k:Below w w v):de o v B A O C L S:=h.ko (KO.of_below (F:=λ_=>False) k) (λ_ _ f=>f)
instance {o w B A O C L S}:Mv (de o w B A O C L S) w (λv'=>de o v' B A O C L S):=⟨λk h=>de.below h k⟩
theorem de.own {o o':aU} {w:ϖ} {B A O C:Nat} {L:List CD} {S:AS} (h:de o w B A O C L S)(e:∀x,x<w.heap.size->o' x=o x):de o' w B A O C L S:=by obtain⟨B',⟨LB,A',hA⟩,⟨LO,O',hO⟩,⟨LK,C',KF⟩,oB,oA,oO,oC⟩:=h;exact⟨B',⟨LB,A',hA⟩,⟨LO,O',hO⟩,⟨LK,C',KF.own e⟩,(e _ B'.size).trans oB,(e _ A'.size).trans oA,(e _ O'.size).trans oO,(e _ C'.size).trans oC⟩
def aj (w:ϖ)(b:Nat)(qv:ϗ)(x:EN):Prop:=ah w b (pe x qv) 244
theorem aj.below {w v:ϖ} {b:Nat} {qv:ϗ} {x:EN} (h:aj w b qv x)(k:Below w w v):aj v b qv x:=ah.below h k (ah.size h)
instance {w b qv x}:Mv (aj w b qv x) w (λv'=>aj v' b qv x):=⟨λk h=>aj.below h k⟩
theorem aj.ko {w v:ϖ} {b:Nat} {qv:ϗ} {x:EN} {F:Nat->Prop} (h:aj w b qv x)(k:KO F w v)(hF:¬F b):aj v b qv x:=ah.ko h k hF
theorem aj.c0 {w:ϖ} {b:Nat} {qv:ϗ} {x:EN} (h:aj w b qv x):w.cell? ⟨b,0,none⟩=some qv:=ah.cell h 0
theorem aj.c1 {w:ϖ} {b:Nat} {qv:ϗ} {x:EN} (h:aj w b qv x):w.cell? ⟨b,1,none⟩=some (ι ε x.c.id):=ah.cell h 1
theorem aj.c2 {w:ϖ} {b:Nat} {qv:ϗ} {x:EN} (h:aj w b qv x):w.cell? ⟨b,2,none⟩=some (ι ε x.c.par):=ah.cell h 2
theorem aj.c3 {w:ϖ} {b:Nat} {qv:ϗ} {x:EN} (h:aj w b qv x):w.cell? ⟨b,3,none⟩=some (β x.c.lf):=ah.cell h 3
theorem aj.c15 {w:ϖ} {b:Nat} {qv:ϗ} {x:EN} (h:aj w b qv x):w.cell? ⟨b,15,none⟩=some (ι υ x.tot):=ah.cell h 15
theorem aj.c36 {w:ϖ} {b:Nat} {qv:ϗ} {x:EN} (h:aj w b qv x):w.cell? ⟨b,36,none⟩=some (ι υ x.du.e):=ah.cell h 36
theorem aj.c37 {w:ϖ} {b:Nat} {qv:ϗ} {x:EN} (h:aj w b qv x):w.cell? ⟨b,37,none⟩=some (ι υ x.du.t):=ah.cell h 37
theorem aj.c48 {w:ϖ} {b:Nat} {qv:ϗ} {x:EN} (h:aj w b qv x):w.cell? ⟨b,48,none⟩=some (ι υ x.sh.t):=ah.cell h 48
theorem aj.c59 {w:ϖ} {b:Nat} {qv:ϗ} {x:EN} (h:aj w b qv x):w.cell? ⟨b,59,none⟩=some (ι υ x.cp.t):=ah.cell h 59
theorem Dq (B:Nat)(m:TM)(fp:Nat->Prop)(w:ϖ)(H:aQ 211 w B m fp)(v:Int)(hv:fitT m=v):
  CB 172 #[B] w v:=by
 refine(Ji B m fp w H).mono ?_;rintro e w' ⟨u,rfl,hu,hb⟩;exact⟨by rw[<- hv,uY hu],hb⟩
theorem iZ {b b':Nat} (h:some (Value.pointer b)=some (Value.pointer b')):b=b':=by simpa using h
theorem DJ (S:AS)(B A O C:Nat)(o:aU)(L:List CD)(id:Int)(z:Bool)(w:ϖ)(H:de o w B A O C L S)(hz:S.is id=z):Calls Ψ 124 #[B,ι ε id] w λe w'=>e=ϰ (β z)/\w=w':=by
 rw[<- hz];exact xQ S B A O C o L id w H
theorem FY (o:aU)(a:Ad)(s:SS)(i:Int)(b:Nat)(w:ϖ)(H:ar o w a s)(hc:∃c,fc s.L i=some c)(hb:lk i a.LB=some (ψ b)):
  CB 214 #[a.S,b] w (s.fit i):=by
 obtain⟨c,hc⟩:=hc;obtain⟨S',T',NC,E',A',V',Nf,D',oS,oT,oM,Uq,Us⟩:=H;obtain⟨b2,qv,Kx,KU,X0,-⟩:=E'.out hc;have eb:=iZ (hb.symm.trans Kx);subst eb;have X':aj w b qv (s.e i):=X0.1;obtain⟨lf,LY⟩:=Nq ((s.e i).c.lf);obtain⟨z,hz⟩:=Nq (s.A.is i);obtain⟨v,hv⟩:=Nq (s.fit i);obtain⟨g,hg⟩:=Nq ((s.e i).cp.t);have P':c.id=i:=(aM hc).2;rw[hv];unfold SS.fit at hv;rw[LY,hz,hg] at hv;change Hid _ at hv KU P' LY hg;have Sa:=ag hz;clear hz;rcases lf with _|_
 rotate_left
 ·exact ξf
 rcases z with _|_
 ·exact ξf
 have Nj:bT s.L i=true:=by unfold bT;rw[hc];have:=LY.out;rw[KU.out] at this;simp[this]
 obtain⟨t,fp,ht,D0,-,-⟩:=D'.out Nj;obtain⟨f,hf⟩:=Nq (fitT (s.kd i));have hr:max g f=v:=by have:=hv.out;simpa [hf] using this
 change Hid _ at hf hr ht;have Rr:=S'.r;have Ln:=((am Γ Θ Nf i (z:=Kp) ρm).2.trans ρT);have KD:=((aj.c1 X').trans σk);have KL:=((aj.c3 X').trans σR);have MA:=((aj.c59 X').trans σZ);unfold CB;go_in;go_wp2_with fail;refine bR (θ6 (Ks (λ_=>False) w) S' A' X' Nf D0) ?_;clear Rr;rintro v1 ⟨I',Lp,Qf,LH,Mz,D01⟩ Rr;replace Ln:=((am Γ Θ Mz i (z:=Kp) ρm).2.trans ρT);replace KD:=((aj.c1 LH).trans σk);replace KL:=((aj.c3 LH).trans σR);replace MA:=((aj.c59 LH).trans σZ);have q:=af Lp;have KS:=λd os=>((aj.c1 (LH.below (qW _ d os))).trans σk);have Lg:=λd os=>((aj.c3 (LH.below (qW _ d os))).trans σR);have Oh:=λd os=>((aj.c59 (LH.below (qW _ d os))).trans σZ);have Ms:=λd os=>((am Γ Θ (Mz.grow d os) i (z:=Kp) ρm).2.trans ρT);refine Wq ?_
 repeat (go_big_quiet_step ((first
   | (go_at_call 124;(with_reducible exact aq (DJ s.A a.ON a.A a.O a.C o s.L i _ _ (Qf.below (qW _ _ _)) Sa.out))))))
 refine bE (θ6 Lp Qf LH Mz D01 I') ?_;clear Rr;rintro v2 ⟨MT,QF,LU,PE,D02,J'⟩ Rr;replace Ln:=((am Γ Θ PE i (z:=Kp) ρm).2.trans ρT);replace KD:=((aj.c1 LU).trans σk);replace KL:=((aj.c3 LU).trans σR);replace MA:=((aj.c59 LU).trans σZ);clear q KS Lg Oh Ms Lp Qf LH Mz D01;go_wp2_with fail;refine bR (θ6 J' MT QF LU PE D02) ?_;clear Rr;rintro v3 ⟨Kk,MU,Sh,LW,Ow,D03⟩ Rr;replace Ln:=((am Γ Θ Ow i (z:=Kp) ρm).2.trans ρT);replace KD:=((aj.c1 LW).trans σk);replace KL:=((aj.c3 LW).trans σR);replace MA:=((aj.c59 LW).trans σZ);have q:=af MU;have KS:=λd os=>((aj.c1 (LW.below (qW _ d os))).trans σk);have Lg:=λd os=>((aj.c3 (LW.below (qW _ d os))).trans σR);have Oh:=λd os=>((aj.c59 (LW.below (qW _ d os))).trans σZ);have Ms:=λd os=>((am Γ Θ (Ow.grow d os) i (z:=Kp) ρm).2.trans ρT);refine Wq ?_
 repeat (go_big_quiet_step ((first
   | (go_at_call 172;(with_reducible exact cD (Dq t (s.kd i) fp _ (D03.below (qW _ _ _)) f hf.out)))
   | (go_at_call 257;(with_reducible exact cD (wC g f v _ hr.out))))))
 refine bE (θ6 MU Sh LW Ow D03 Kk) ?_;clear Rr;rintro v4 ⟨OM,A'4,LX,Xc,D04,Km⟩ Rr;replace Ln:=((am Γ Θ Xc i (z:=Kp) ρm).2.trans ρT);replace KD:=((aj.c1 LX).trans σk);replace KL:=((aj.c3 LX).trans σR);replace MA:=((aj.c59 LX).trans σZ);clear q KS Lg Oh Ms MU Sh LW Ow D03;go_wp2;go_ret;exact⟨rfl,(Km.step0 ρE).toBelow⟩
def TG.mine (t:TG):Prop:=t≠.no
def aU.more (o:aU)(n:Nat)(t:TG):aU:=λx=>if x<n then o x else t
theorem aU.more_lt {o:aU} {n:Nat} {t:TG} {x:Nat} (h:x<n):o.more n t x=o x:=qP h
theorem aU.more_ge {o:aU} {n:Nat} {t:TG} {x:Nat} (h:n<=x):o.more n t x=t:=qI ρa
section
variable {o o':aU} {w v:ϖ} {a:Ad} {s:SS}
theorem ar.below (h:ar o w a s)(k:Below w w v):ar o v a s:=by obtain⟨S',T',NC,E',A',V',Nf,D',r⟩:=h;exact⟨S'.below k S'.size,T'.below k,NC.below k,E'.below k,A'.below k,V'.below k,Nf.below k,D'.below k,r⟩
instance {o w a s}:Mv (ar o w a s) w (λv'=>ar o v' a s):=⟨λk h=>ar.below h k⟩
theorem ar.own (h:ar o w a s)(e:∀x,x<w.heap.size->o' x=o x):ar o' w a s:=by obtain⟨S',T',NC,E',A',V',Nf,D',h1,h2,h3,h4,h5⟩:=h;exact⟨S',T',NC,E'.own e,A'.own e,V'.own e,Nf,D'.own e,(e _ S'.size).trans h1,(e _ T'.1.size).trans h2,(e _ T'.2.1.size).trans h3,(e _ NC.size).trans h4,(e _ Nf.size).trans h5⟩
theorem ar.ko {F:Nat->Prop} (h:ar o w a s)(k:KO F w v)(hF:∀x,F x->o x=.no):ar o v a s:=by obtain⟨S',T',NC,E',A',V',Nf,D',h1,h2,h3,h4,h5⟩:=h;have n:∀x t,o x=t->t≠.no->¬F x:=λx t e ht f=>ht (e ▸ hF x f);exact⟨S'.ko k (n _ _ h1 ρp),T'.ko k (n _ _ h2 ρp) (n _ _ h3 ρp),NC.ko k (n _ _ h4 ρp),E'.ko k (λb i _ e f=>by have:=hF b f;rcases e with e|e<;>rw[this] at e<;>cases e),A'.ko k (λx e f=>by have:=hF x f;rw[this] at e;rcases e with e|e|e;exact e;cases e;cases e),V'.ko k (λb e=>n _ _ e ρp),Nf.ko k (n _ _ h5 ρp),D'.ko k (λb p _ e=>n _ _ e ρp),h1,h2,h3,h4,h5⟩
theorem ar.kdTo (h:ar o w a s) {p:Int} {t:Nat} {m:TM} {fp:Nat->Prop} (hp:bT s.L p=true)(ht:lk p a.LM=some (ψ t))(hf:∀x,fp x->o x=.kd p)(k:fg 211 w v t m fp):ar (o.more w (.kd p)) v a {s with kd:=ay s.kd p m}:=by
 have h0:=h.own (o':=o.more w (.kd p)) (λx hx=>aU.more_lt hx);obtain⟨S',T',NC,E',A',V',Nf,D',h1,h2,h3,h4,h5⟩:=h0;obtain⟨Oj,k1,k2,k3⟩:=k;obtain⟨t2,fp2,ht2,g1,g2,D2⟩:=D'.out hp;have e2:=iZ (ht.symm.trans ht2);subst e2;have sz:∀x,fp x->x<w.heap.size\/w.heap.size<=x:=λx _=>by omega
 have QO:∀x,fp x->o.more w (.kd p) x=.kd p:=λx hx=>ηU
 have n:∀x q,o.more w (.kd p) x=q->q≠.kd p->¬fp x:=λx q e hq f=>hq (e ▸ QO x f);have n2:∀x,(o.more w (.kd p) x)≠.kd p->¬fp x:=λx e f=>e (QO x f);refine⟨S'.ko k3 (n _ _ h1 ρp),T'.ko k3 (n _ _ h2 ρp) (n _ _ h3 ρp),NC.ko k3 (n _ _ h4 ρp),E'.ko k3 (λb i _ e=>n2 b (by rcases e with e|e<;>rw[e]<;>simp)),A'.ko k3 κe,V'.ko k3 (λb e=>n _ _ e ρp),Nf.ko k3 (n _ _ h5 ρp),?_,h1,h2,h3,h4,h5⟩;refine dh.back (D2.ko k3 (λb q hq e=>n _ _ e (by intro g;cases g;exact hq rfl))) ht k1 (λx hx=>?_);rcases Nat.lt_or_ge x w with hl|hl
 ·rw[aU.more_lt hl];rcases k2 x hx with g|g
  ·exact hf x g
  ·omega
 ·exact aU.more_ge hl
theorem ar.lvTo (h:ar o w a s) {m:TM} {fp:Nat->Prop} (hf:∀x,fp x->o x=.lv)(k:fg 209 w v a.LV m fp):ar (o.more w .lv) v a {s with lv:=m}:=by
 have h0:=h.own (o':=o.more w .lv) (λx hx=>aU.more_lt hx);obtain⟨S',T',NC,E',A',V',Nf,D',h1,h2,h3,h4,h5⟩:=h0;have k0:=k;obtain⟨Oj,k1,k2,k3⟩:=k;have QO:∀x,fp x->o.more w .lv x=.lv:=λx hx=>ηU
 have n2:∀x,(o.more w .lv x)≠.lv->¬fp x:=λx e f=>e (QO x f);have n:∀x q,o.more w .lv x=q->q≠.lv->¬fp x:=λx q e hq f=>hq (e ▸ QO x f);exact⟨S'.ko k3 (n _ _ h1 ρp),T'.ko k3 (n _ _ h2 ρp) (n _ _ h3 ρp),NC.ko k3 (n _ _ h4 ρp),E'.ko k3 (λb i _ e=>n2 b (by rcases e with e|e<;>rw[e]<;>simp)),A'.ko k3 κe,eD.to (m:=m) hf k0,Nf.ko k3 (n _ _ h5 ρp),D'.ko k3 (λb p _ e=>n _ _ e ρp),h1,h2,h3,h4,h5⟩
theorem ar.actTo (h:ar o w a s) {S2:AS} (k:de o' v a.ON a.A a.O a.C s.L S2)(e:∀x,x<w.heap.size->o' x=o x)(k3:KO (λx=>(o x).act) w v):ar o' v a {s with A:=S2}:=by have h0:=h.own e;obtain⟨S',T',NC,E',A',V',Nf,D',h1,h2,h3,h4,h5⟩:=h0;have k4:KO (λx=>(o' x).act) w v:=k3.mono (λx hx f=>by show TG.act (o' x);rw[e x hx];exact f);have n:∀x t,o' x=t->¬t.act->¬(o' x).act:=λx t e ht f=>ht (e ▸ f);exact⟨S'.ko k4 (n _ _ h1 id),T'.ko k4 (n _ _ h2 id) (n _ _ h3 id),NC.ko k4 (n _ _ h4 id),E'.ko k4 (λb i _ e=>by rcases e with e|e<;>exact n _ _ e id),k,V'.ko k4 (λb e=>n _ _ e id),Nf.ko k4 (n _ _ h5 id),D'.ko k4 (λb p _ e=>n _ _ e id),h1,h2,h3,h4,h5⟩
theorem ar.entTo (h:ar o w a s) {i:Int} {c:CD} {b:Nat} {qv:ϗ} {x:EN} {F:Nat->Prop} (hc:fc s.L i=some c)(hb:lk i a.LB=some (ψ b))(hx:x.c=c)(k:KO F w v)(hF:∀y,F y->o y=.en i\/o y=.qu i)(k1:ij o v i b qv x):ar o v a (s.setE i x):=by
 obtain⟨S',T',NC,E',A',V',Nf,D',h1,h2,h3,h4,h5⟩:=h;obtain⟨b2,qv2,Kx,_,_,E2⟩:=E'.out hc;have n:∀y t,o y=t->t≠.en i->t≠.qu i->¬F y:=λy t e t1 t2 f=>by
  rcases hF y f with g|g
  ·exact t1 (e.symm.trans g)
  ·exact t2 (e.symm.trans g)
 refine⟨S'.ko k (n _ _ h1 ρp ρp),T'.ko k (n _ _ h2 ρp ρp) (n _ _ h3 ρp ρp),NC.ko k (n _ _ h4 ρp ρp),?_,A'.ko k (λx e f=>?_),V'.ko k (λb e=>n _ _ e ρp ρp),Nf.ko k (n _ _ h5 ρp ρp),D'.ko k (λb p _ e=>n _ _ e ρp ρp),h1,h2,h3,h4,h5⟩
 ·refine bm.back (E2.ko k (λy j hj e=>?_)) hc hb hx k1;rcases e with e|e<;>exact n _ _ e (by intro g;cases g<;>exact hj rfl) (by intro g;cases g<;>exact hj rfl)
 ·rcases hF x f with g|g<;>rw[g] at e<;>simp[TG.act] at e
theorem ar.numTo (h:ar o w a s) {clk acc:Int} (k:KO (λx=>x=a.S) w v)(hS:ah v a.S #[ι ε s.T,ι ε s.Lm,a.T,.map (some a.BY),a.ON,a.LV,.map (some a.KM),clk,acc] 155):ar o v a {s with clk:=clk,acc:=acc}:=by obtain⟨S',T',NC,E',A',V',Nf,D',h1,h2,h3,h4,h5⟩:=h;have n:∀y t,o y=t->t≠.sy->¬y=a.S:=λy t e t1 f=>t1 (by rw[f,h1] at e;exact e.symm);exact⟨hS,T'.ko k (n _ _ h2 ρp) (n _ _ h3 ρp),NC.ko k (n _ _ h4 ρp),E'.ko k (λb i _ e=>by rcases e with e|e<;>exact n _ _ e ρp),A'.ko k (λx e f=>by rw[f,h1] at e;rcases e with e|e|e;exact e;cases e;cases e),V'.ko k (λb e=>n _ _ e ρp),Nf.ko k (n _ _ h5 ρp),D'.ko k (λb p _ e=>n _ _ e ρp),h1,h2,h3,h4,h5⟩
end
structure SS.Wf (s:SS):Prop where
 tree:∀c ∈ s.L,bT s.L c.par=true
 nz:fc s.L 0=none
 ids:∀p j,s.kd p j≠none->∃c,fc s.L j=some c/\c.par=p
 up:∀c ∈ s.L,∃xs,dB s.L c.id xs/\xs.length<=1000
 ec:∀i c,fc s.L i=some c->(s.e i).c=c
 lvs:∀j,s.lv j≠none->∃c,fc s.L j=some c/\c.lf=true
 cls:∀c ∈ s.L,Go.Proofs.YtfdlemkplejdnaaGreat.kd c.r0 c.r1 c.r2≠0/\(Go.Proofs.YtfdlemkplejdnaaGreat.kd c.l0 c.l1 c.l2≠0/\Go.Proofs.YtfdlemkplejdnaaGreat.kd c.l0 c.l1 c.l2≠4)/\Go.Proofs.YtfdlemkplejdnaaGreat.kd c.u0 c.u1 c.u2≠0
 len:s.L.length<=1000
theorem SS.settle_snoc (s:SS)(xs:List Int)(x:Int):s.settle (xs++[x])=(s.settle xs).settle1 x:=by unfold SS.settle;rw[List.foldl_append];rfl
theorem SS.Wf.settle1 {s:SS} (h:s.Wf) {i:Int} (hi:∃c,fc s.L i=some c):(s.settle1 i).Wf:=by
 unfold SS.settle1;split
 ·refine⟨h.tree,h.nz,λp j hj=>?_,h.up,h.ec,h.lvs,h.cls,h.len⟩;unfold ay at hj;simp only[] at hj;split at hj
  ·rename_i e1;unfold aP at hj;split at hj
   ·rename_i e;obtain⟨c,hc⟩:=hi;exact⟨c,by rw[e];exact hc,by rw[e1,h.ec i c hc]⟩
   ·rw[e1];exact h.ids _ j hj
  ·exact h.ids p j hj
 ·exact h
theorem jh {L:List CD} {j:Int} (h:∃c,fc L j=some c):j ∈ L.map CD.id:=by obtain⟨c,hc⟩:=h;exact List.mem_map.2 ⟨c,(aM hc).1,(aM hc).2⟩
theorem bm.at {o:aU} {w:ϖ} {L:List CD} {e:Int->EN} {LB:List (Int × ϗ)} {i:Int} {c:CD} (h:bO o w L e LB)(hc:fc L i=some c):∃b qv,lk i LB=some (ψ (some ⟨b,0,none⟩))/\(e i).c=c/\aj w b qv (e i)/\o b=.en i/\(e i).ok:=by obtain⟨b,qv,h1,h2,h3,_⟩:=h.out hc;exact⟨b,qv,h1,h2,h3.1,h3.2.1,h3.2.2.2⟩
theorem rg {ty:TypeId} {w:ϖ} {B:Nat} {m:TM} {fp:Nat->Prop} (h:aQ ty w B m fp):0<=fitT m/\fitT m<=Mc:=by
 obtain⟨T,M,t,L,h1,h2,h3,h4,h5,h6,h7,_⟩:=h;have rng:∀v,iv m Mc v->0<=v/\v<=9223372036854775808:=by
  rintro v ⟨h1,h2,h3⟩;rcases h1 with h1|⟨j,q,hq,h1⟩
  ·omega
  ·have:=h7 j q hq;omega
 unfold fitT;split
 ·rename_i SD;exact rng _ (Classical.choose_spec SD)
 ·omega
theorem SS.fit_rng {o:aU} {w:ϖ} {a:Ad} {s:SS} {i:Int} {c:CD} (H:ar o w a s)(hc:fc s.L i=some c):0<=s.fit i/\s.fit i<=Ma:=by
 obtain⟨S',T',NC,E',A',V',Nf,D',oS,oT,oM,Uq,Us⟩:=H;obtain⟨b,qv,h1,h2,h3,h4,ok⟩:=E'.at hc;have:=ok.2.2.2.2.2.2.1;unfold SS.fit;split
 ·exact this
 ·rename_i hn;have Nj:bT s.L i=true:=by
   unfold bT;rw[hc];have:c.lf=false:=by
    rcases e:c.lf with _|_
    ·rfl
    ·exact ax (.inl (by rw[h2];exact e)) hn
   simp[this]
  obtain⟨t,fp,_,T0,_,_⟩:=D'.out Nj;have:=rg T0;omega
theorem eV {L:List CD}:∀{xs:List Int} {i:Int},dB L i xs->∀y ∈ xs,∃c,fc L y=some c
 | [],_,_,y,hy=>by simp at hy
 | x::r,i,⟨c,h1,h2,h3⟩,y,hy=>by
  rcases qC.1 hy with e|e
  ·exact⟨c,by rw[e,h2];exact h1⟩
  ·exact eV h3 y e
theorem DX (o:aU)(a:Ad)(s:SS)(i:Int)(b:Nat)(w:ϖ)(H:ar o w a s)(hc:∃c,fc s.L i=some c)(hb:lk i a.LB=some (ψ b))(v:Int)(hv:s.fit i=v):
  CB 214 #[a.S,b] w v:=by
 rw[<- hv];exact FY o a s i b w H hc hb
theorem ju (o:aU)(a:Ad)(s:SS)(i:Int)(xs:List Int)(w:ϖ)(H:ar o w a s)(W:s.Wf)(hu:dB s.L i xs)(hx:xs.length<=1000):Calls Ψ 159 #[a.S,ι ε i] w λe w'=>e=ϰ (χ #[])/\∃o',ar o' w' a (s.settle xs)/\(∀x,x<w.heap.size->o' x=o x)/\KO (λx=>(o x).mine) w w':=by
 have S0:=H.1;have T0:=H.2.1;have zS:=S0.size;have cS:=S0.cell;have fS:=S0.frozen;go_in;go_wp2_with fail;refine(IF a.T a.M s.L i xs w T0 hu hx).mono ?_;rintro e v1 ⟨u,rfl,G1,kx⟩;obtain⟨oa,oc,rfl⟩:=G1.slice;obtain⟨n,hn⟩:=Nq xs.length;rw[hn] at G1 hx ⊢;have RU:∀y ∈ xs,∃c,fc s.L y=some c:=eV hu;replace hn:=ag hn;have z1:=kx.size;have H1:ar (o.more w .no) v1 a s:=(H.own (λx hx=>aU.more_lt hx)).below kx;have nz1:∀x,some x=(Value.slice oa n oc).ownBlock->o.more w .no x=.no:=λx hx=>aU.more_ge (G1.own_ge x hx.symm).1;have Wi:∀x,x<w.heap.size->o.more w .no x=o x:=λx hx=>aU.more_lt hx;have I':KO (λx=>(o x).mine) w v1:=(KO.of_below (F:=λ_=>False) kx).mono (λ_ _ f=>f.elim);clear S0 T0 cS fS;go_wp2_with fail;go_loopw [14] (λk wr=>∃(a1 b1:List Int) (o1:aU),k=ι ε (a1.length:Nat)/\xs=a1++b1/\ar o1 wr a (s.settle a1)/\(s.settle a1).Wf/\(s.settle a1).L=s.L/\HI wr w (ζ oa n oc) xs/\(∀x,some x=(Value.slice oa n oc).ownBlock->o1 x=.no)/\(∀x,x<w.heap.size->o1 x=o x)/\KO (λx=>(o x).mine) w wr) (λk _=>n - (intOf k).toNat);case atStart=>exact⟨[],xs,_,rfl,rfl,H1,W,rfl,G1,nz1,Wi,I'⟩
 case round=>
  obtain⟨a1,b1,o1,rfl,Kq,H0,W0,eL,G0,nz0,Ou,Kj⟩:=hrel;clear H1 G1 nz1 Wi I';have Kv:a1.length+b1.length=n:=τb;obtain⟨q,hq⟩:=Nq a1.length;rw[hq] at Kv ⊢;have zw:=Kj.size;cases b1 with
  | nil=>have Ku:¬q<n:=ρo;have hd:=qF Ku;have Rw:a1=xs:=ρQ;rw[Rw] at H0;change Hid _ at Kv hq;clear Kq Rw;go_wp2_with fail;go_end0;exact⟨rfl,_,H0.below ρE,Ou,Kj.step0 ρE⟩
  | cons x r=>
   have Ku:q<n:=ρo;have hd:=qT Ku;have NI:xs[q]?=some x:=ρI;have KI:xs≠[]:=ρS;obtain⟨c,hc⟩:=RU x ρS;have My:=SS.settle_snoc s a1 x;obtain⟨s1,Lv⟩:=Nq (s.settle a1);rw[Lv] at H0 W0 eL My;rw[<- eL] at hc;obtain⟨Vd,OA,g0,e0,KY,e1,_⟩:=ae.at G0 (λ_=>rfl);have e1:=e1 KI;obtain⟨rfl,-,rfl⟩:=qV e0;subst e1;obtain⟨cx,gx,bx⟩:=HI.cell G0 q x NI;have Nu:q<n:=ρo;have Ub:=W0.settle1 ⟨c,hc⟩;obtain⟨S',T',NC,E',A',V',Nf,D',oS,oT,oM,Uq,Us⟩:=id H0;obtain⟨b,qv,hb,KU,X',ob,ok⟩:=E'.at hc;have P':(s1.e x).c.id=x:=by rw[KU];exact(aM hc).2
   obtain⟨z,hz⟩:=Nq (s1.A.is x);obtain⟨p,hp⟩:=Nq ((s1.e x).c.par);obtain⟨vt,VY⟩:=Nq ((s1.e x).sh.t);obtain⟨ft,XD⟩:=Nq (s1.fit x);have rft:=SS.fit_rng H0 hc;have rvt:=ok.2.2.2.2.1;rw[XD] at rft;rw[VY] at rvt;have Nj:bT s1.L p=true:=by rw[<- hp,KU];exact W0.tree c (aM hc).1
   obtain⟨t,fp,ht,T0,OD,-⟩:=D'.out Nj;have Mo:=W0.ids p;change Hid _ at Kq hq KY Kv Lv My eL P' hp VY XD hb ht hc KU;clear T' E' V' D' oS oT oM Uq Us KI;have Te:=S';have NL:=NC;have Sg:=A';have Sw:=X';have N6:=Nf;have Yx:=T0;clear S' NC A' X' Nf T0;have Rr:=Te.r;have Lh:=((am Δ Θ NL x (z:=Kp) ρm).2.trans (by rw[hb.out];try rfl));have Ln:=((am Γ Θ N6 p (z:=Kp) ρm).2.trans ρT);have KD:=((aj.c1 Sw).trans τU);have KL:=((aj.c2 Sw).trans (by rw[hp.out]));have MA:=((aj.c48 Sw).trans (by rw[VY.out]));go_wp2_with fail;refine(DJ s1.A a.ON a.A a.O a.C o1 s1.L x z _ Sg hz).mono ?_;rintro e v ⟨rfl,rfl⟩;replace hz:=ag hz;rcases z with _|_
   ·have he:s1.settle1 x=s1:=by unfold SS.settle1;rw[qI (by rw[hz.out];simp)]
    go_wp2;go_roundw;case rel=>exact⟨a1++[x],r,o1,by rw[qL,hq.out];go_num,by rw[Kq.out];simp,by rw[My.out,he];exact H0.below ρE,by rw[My.out];exact Ub,by rw[My.out,he];exact eL.out,ae.below G0 ρE,nz0,Ou,Kj.step0 ρE⟩
    case measure=>exact ξb
   ·have he:s1.settle1 x={s1 with kd:=ay s1.kd p (aP (s1.kd p) x (some (vt,ft)))}:=by unfold SS.settle1;rw[qP hz.out,hp.out,VY.out,XD.out]
    clear Sg;replace he:=ag he;go_wp2_with fail;refine bR (θ8 Kj H0 Te NL Sw N6 G0 Yx) ?_;clear Rr;rintro v1 ⟨I',H1,Lp,O6,LH,Mz,G1,Wx⟩ Rr;replace Lh:=((am Δ Θ O6 x (z:=Kp) ρm).2.trans (by rw[hb.out];try rfl));replace Ln:=((am Γ Θ Mz p (z:=Kp) ρm).2.trans ρT);replace KD:=((aj.c1 LH).trans τU);replace KL:=((aj.c2 LH).trans (by rw[hp.out]));replace MA:=((aj.c48 LH).trans (by rw[VY.out]));have Og:=af Lp;have Mq:=λd os=>((am Δ Θ (O6.grow d os) x (z:=Kp) ρm).2.trans (by rw[hb.out];try rfl));have KS:=λd os=>((aj.c1 (LH.below (qW _ d os))).trans τU);have Lg:=λd os=>((aj.c2 (LH.below (qW _ d os))).trans (by rw[hp.out]));have Oh:=λd os=>((aj.c48 (LH.below (qW _ d os))).trans (by rw[VY.out]));have Ms:=λd os=>((am Γ Θ (Mz.grow d os) p (z:=Kp) ρm).2.trans ρT);refine Ws 19 (oR ?_)
    repeat (go_big_quiet_step ((first
      | (go_at_call 214;(with_reducible exact cD (DX o1 a s1 x b _ (H1.below (qW _ _ _)) ⟨c,hc.out⟩ hb.out ft XD.out))))))
    refine bE (θ8 H1 Lp O6 LH Mz G1 Wx I') ?_;clear Rr;rintro v2 ⟨H2,MT,Qh,LU,PE,G2,T02,J'⟩ Rr;replace Lh:=((am Δ Θ Qh x (z:=Kp) ρm).2.trans (by rw[hb.out];try rfl));replace Ln:=((am Γ Θ PE p (z:=Kp) ρm).2.trans ρT);replace KD:=((aj.c1 LU).trans τU);replace KL:=((aj.c2 LU).trans (by rw[hp.out]));replace MA:=((aj.c48 LU).trans (by rw[VY.out]));clear Og Mq KS Lg Oh Ms H1 Lp O6 LH Mz G1 Wx;go_wp2_with fail;refine(GZ t (s1.kd p) fp x vt ft (s1.L.map CD.id) _ T02 rvt rft (λj hj=>jh ((Mo j hj).imp λc h=>h.1)) (by rw[nl];have:=W0.len;omega)).mono ?_;rintro e v3 ⟨rfl,TT⟩;have H3:=H2.kdTo Nj ht.out OD TT;obtain⟨fp3,_,_,kx⟩:=TT;have Kk:=J'.trans kx (by intro y hy f;show TG.mine _;rw[<- Ou y hy,OD y f];simp[TG.mine]);have G3:=ae.ko G2 kx (λy _ hy f=>by have h1:=nz0 y hy;rw[OD y f] at h1;cases h1);go_wp2;go_roundw;case rel=>exact⟨a1++[x],r,o1.more v2 (.kd p),by rw[qL,hq.out];go_num,by rw[Kq.out];simp,by rw[My.out,he.out];exact H3.below ρE,by rw[My.out];exact Ub,by rw[My.out,he.out];exact eL.out,ae.below G3 ρE,λy hy=>(aU.more_lt (G2.own_ge y hy.symm).2).trans (nz0 y hy),λy hy=>(aU.more_lt (by have:=J'.size;omega)).trans (Ou y hy),Kk.step0 ρE⟩
    case measure=>exact ξb
theorem dJ {P:Program} {Ki:Array Oper} {rest:List Oper} {op:Oper} {a:Act} {v:ϖ} {Q:Act->Prop} (ty:TypeId)(x:Operand)(B o:Nat)(cs cs':Array ϗ)(t:TypeId)(d:TypeDesc)
  (ho:op.op=.load ty x) (hw:Region.wanted op (yielded Ki a.tmps)=true) (hx:a.eval x=ψ (some ⟨B,o,none⟩)) (hB:ah v B cs t) (hc:∀j u,cs'.toList[j]?=some u->cs[o+j]?=some u) (hu:P.underlying ty=some d) (hd:d.isRow=true) (hi:(P.info? ty).map (·.size)=some cs'.size)
  (h:wpQuiet P Ki (λw'=>∃p:Regrown,w'=grow (redrawn v p.d) p.os) Q rest (a.put op.dst (φ cs'))):wpQuiet P Ki (λw'=>∃p:Regrown,w'=grow (redrawn v p.d) p.os) Q (op::rest) a:=by
 refine wpQuiet_step λK hK=>?_;rw[qP hw];refine⟨φ cs',λw' Pk=>?_,hK _ h⟩;obtain⟨p,rfl⟩:=Pk;have hb:ah (grow (redrawn v p.d) p.os) B cs t:=ah.below hB (qW _ _ _) hB.size;have hl:=run_loadVar_mid (P:=P) (grow (redrawn v p.d) p.os) B o ty cs'.toList d (λj u hj=>by rw[hb.cell];exact hc j u hj) hu hd τj;unfold Oper.quietAt execOp;simp only[ho,hx,Instr.loadAt,Instr.sureAddr,Sem.run_bind,Sem.run_pure,Result.andThen_ok,hl,Oper.quietUpon];exact⟨trivial,by simp⟩
theorem iN {P:Program} {Ki:Array Oper} {rest:List Oper} {op:Oper} {a:Act} {w:ϖ} {Q:Exit->Act->ϖ->Prop} (ty:TypeId)(x y:Operand)(B o:Nat)(cs cs' Rh:Array ϗ)(t:TypeId)
  (Ns:op.guard=none) (ho:op.op=.store ty x y) (hx:a.eval x=ψ (some ⟨B,o,none⟩)) (hy:a.eval y=φ cs') (hB:ah w B cs t) (MH:o+cs'.size<=cs.size) (Oc:cV cs o cs'.toList=Rh) (hi:(P.info? ty).map (·.size)=some cs'.size) (h1:cs'.all (·.oneCell')=true)
  (h:∀w',ah w' B Rh t->KO (λk=>k=B) w w'->w'.heap.size=w->wpList P Ki Q rest (a.put op.dst undef) w'):wpList P Ki Q (op::rest) a w:=by
 refine wpList_store_mid Ns ty x y ho B o cs' hx hy (λj hj=>?_) hi h1 ?_
 ·exact ηx
 ·have hb:=ah.setCells cs'.toList o w cs hB;rw[Oc] at hb;exact h _ hb (KO.setCells (F:=λk=>k=B) (λ_=>rfl) _ _ _ (KO.refl _ _)) (eC B _ _ _)
theorem aj.lcl {Ki:Array Oper} {rest:List Oper} {op:Oper} {a:Act} {w:ϖ} {Q:Exit->Act->ϖ->Prop} {b:Nat} {qv:ϗ} {x:EN} (hB:aj w b qv x)(p:Operand)(Ns:op.guard=none)(ho:op.op=.load 43 p)(hx:a.eval p=ψ (some ⟨b,1,none⟩))
  (h:wpList Ψ Ki Q rest (a.put op.dst (CD.v x.c)) w):wpList Ψ Ki Q (op::rest) a w:=
 wH 43 p b 1 (pe x qv) (fh x.c) 244 _ Ns ho hx hB (by intro j u hj;(iterate 14 (rcases j with _|j;(exact hj)));cases hj) Tryz.underlying43 rfl ρi h
theorem aj.qrt {Ki:Array Oper} {rest:List Oper} {op:Oper} {a:Act} {v:ϖ} {Q:Act->Prop} {b:Nat} {qv:ϗ} {x:EN} (hB:aj v b qv x)(p:Operand)(ho:op.op=.load 41 p)(hw:Region.wanted op (yielded Ki a.tmps)=true)(hx:a.eval p=ψ (some ⟨b,4,none⟩))
  (h:wpQuiet Ψ Ki (λw'=>∃p:Regrown,w'=grow (redrawn v p.d) p.os) Q rest (a.put op.dst (φ (aH x.c.r0 x.c.r1 x.c.r2)))):wpQuiet Ψ Ki (λw'=>∃p:Regrown,w'=grow (redrawn v p.d) p.os) Q (op::rest) a:=
 dJ 41 p b 4 (pe x qv) (aH x.c.r0 x.c.r1 x.c.r2) 244 _ ho hw hx hB (by intro j u hj;(iterate 3 (rcases j with _|j;(exact hj)));cases hj) Tryz.underlying41 rfl ρi h
theorem aj.qls {Ki:Array Oper} {rest:List Oper} {op:Oper} {a:Act} {v:ϖ} {Q:Act->Prop} {b:Nat} {qv:ϗ} {x:EN} (hB:aj v b qv x)(p:Operand)(ho:op.op=.load 41 p)(hw:Region.wanted op (yielded Ki a.tmps)=true)(hx:a.eval p=ψ (some ⟨b,7,none⟩))
  (h:wpQuiet Ψ Ki (λw'=>∃p:Regrown,w'=grow (redrawn v p.d) p.os) Q rest (a.put op.dst (φ (aH x.c.l0 x.c.l1 x.c.l2)))):wpQuiet Ψ Ki (λw'=>∃p:Regrown,w'=grow (redrawn v p.d) p.os) Q (op::rest) a:=
 dJ 41 p b 7 (pe x qv) (aH x.c.l0 x.c.l1 x.c.l2) 244 _ ho hw hx hB (by intro j u hj;(iterate 3 (rcases j with _|j;(exact hj)));cases hj) Tryz.underlying41 rfl ρi h
theorem aj.qul {Ki:Array Oper} {rest:List Oper} {op:Oper} {a:Act} {v:ϖ} {Q:Act->Prop} {b:Nat} {qv:ϗ} {x:EN} (hB:aj v b qv x)(p:Operand)(ho:op.op=.load 41 p)(hw:Region.wanted op (yielded Ki a.tmps)=true)(hx:a.eval p=ψ (some ⟨b,10,none⟩))
  (h:wpQuiet Ψ Ki (λw'=>∃p:Regrown,w'=grow (redrawn v p.d) p.os) Q rest (a.put op.dst (φ (aH x.c.u0 x.c.u1 x.c.u2)))):wpQuiet Ψ Ki (λw'=>∃p:Regrown,w'=grow (redrawn v p.d) p.os) Q (op::rest) a:=
 dJ 41 p b 10 (pe x qv) (aH x.c.u0 x.c.u1 x.c.u2) 244 _ ho hw hx hB (by intro j u hj;(iterate 3 (rcases j with _|j;(exact hj)));cases hj) Tryz.underlying41 rfl ρi h
theorem aj.qdu {Ki:Array Oper} {rest:List Oper} {op:Oper} {a:Act} {v:ϖ} {Q:Act->Prop} {b:Nat} {qv:ϗ} {x:EN} (hB:aj v b qv x)(p:Operand)(ho:op.op=.load 238 p)(hw:Region.wanted op (yielded Ki a.tmps)=true)(hx:a.eval p=ψ (some ⟨b,16,none⟩))
  (h:wpQuiet Ψ Ki (λw'=>∃p:Regrown,w'=grow (redrawn v p.d) p.os) Q rest (a.put op.dst (eF x.du))):wpQuiet Ψ Ki (λw'=>∃p:Regrown,w'=grow (redrawn v p.d) p.os) Q (op::rest) a:=
 dJ 238 p b 16 (pe x qv) (dG x.du.has x.du.D x.du.E x.du.p x.du.e x.du.t) 244 _ ho hw hx hB (by intro j u hj;(iterate 22 (rcases j with _|j;(exact hj)));cases hj) Tryz.underlying238 rfl ρi h
theorem aj.qsh {Ki:Array Oper} {rest:List Oper} {op:Oper} {a:Act} {v:ϖ} {Q:Act->Prop} {b:Nat} {qv:ϗ} {x:EN} (hB:aj v b qv x)(p:Operand)(ho:op.op=.load 240 p)(hw:Region.wanted op (yielded Ki a.tmps)=true)(hx:a.eval p=ψ (some ⟨b,38,none⟩))
  (h:wpQuiet Ψ Ki (λw'=>∃p:Regrown,w'=grow (redrawn v p.d) p.os) Q rest (a.put op.dst (jS x.sh))):wpQuiet Ψ Ki (λw'=>∃p:Regrown,w'=grow (redrawn v p.d) p.os) Q (op::rest) a:=
 dJ 240 p b 38 (pe x qv) (eX x.sh.has x.sh.r x.sh.t) 244 _ ho hw hx hB (by intro j u hj;(iterate 11 (rcases j with _|j;(exact hj)));cases hj) Tryz.underlying240 rfl ρi h
theorem aj.qcp {Ki:Array Oper} {rest:List Oper} {op:Oper} {a:Act} {v:ϖ} {Q:Act->Prop} {b:Nat} {qv:ϗ} {x:EN} (hB:aj v b qv x)(p:Operand)(ho:op.op=.load 242 p)(hw:Region.wanted op (yielded Ki a.tmps)=true)(hx:a.eval p=ψ (some ⟨b,49,none⟩))
  (h:wpQuiet Ψ Ki (λw'=>∃p:Regrown,w'=grow (redrawn v p.d) p.os) Q rest (a.put op.dst (jS x.cp))):wpQuiet Ψ Ki (λw'=>∃p:Regrown,w'=grow (redrawn v p.d) p.os) Q (op::rest) a:=
 dJ 242 p b 49 (pe x qv) (eX x.cp.has x.cp.r x.cp.t) 244 _ ho hw hx hB (by intro j u hj;(iterate 11 (rcases j with _|j;(exact hj)));cases hj) Tryz.underlying242 rfl ρi h
theorem aj.sdu {Ki:Array Oper} {rest:List Oper} {op:Oper} {a:Act} {w:ϖ} {Q:Exit->Act->ϖ->Prop} {b:Nat} {qv:ϗ} {x:EN} (hB:aj w b qv x)(l:LF)(p y:Operand)(Ns:op.guard=none)(ho:op.op=.store 238 p y)(hx:a.eval p=ψ (some ⟨b,16,none⟩))(hy:a.eval y=φ (dG l.has l.D l.E l.p l.e l.t))
  (h:∀w',aj w' b qv {x with du:=l}->KO (λk=>k=b) w w'->w'.heap.size=w->wpList Ψ Ki Q rest (a.put op.dst undef) w'):wpList Ψ Ki Q (op::rest) a w:=
 iN 238 p y b 16 (pe x qv) (dG l.has l.D l.E l.p l.e l.t) (pe {x with du:=l} qv) 244 Ns ho hx hy hB ρp ρi ρi σf h
theorem aj.ssh {Ki:Array Oper} {rest:List Oper} {op:Oper} {a:Act} {w:ϖ} {Q:Exit->Act->ϖ->Prop} {b:Nat} {qv:ϗ} {x:EN} (hB:aj w b qv x)(c:CH)(p y:Operand)(Ns:op.guard=none)(ho:op.op=.store 240 p y)(hx:a.eval p=ψ (some ⟨b,38,none⟩))(hy:a.eval y=φ (eX c.has c.r c.t))
  (h:∀w',aj w' b qv {x with sh:=c}->KO (λk=>k=b) w w'->w'.heap.size=w->wpList Ψ Ki Q rest (a.put op.dst undef) w'):wpList Ψ Ki Q (op::rest) a w:=
 iN 240 p y b 38 (pe x qv) (eX c.has c.r c.t) (pe {x with sh:=c} qv) 244 Ns ho hx hy hB ρp ρi ρi σf h
theorem aj.scp {Ki:Array Oper} {rest:List Oper} {op:Oper} {a:Act} {w:ϖ} {Q:Exit->Act->ϖ->Prop} {b:Nat} {qv:ϗ} {x:EN} (hB:aj w b qv x)(c:CH)(p y:Operand)(Ns:op.guard=none)(ho:op.op=.store 242 p y)(hx:a.eval p=ψ (some ⟨b,49,none⟩))(hy:a.eval y=φ (eX c.has c.r c.t))
  (h:∀w',aj w' b qv {x with cp:=c}->KO (λk=>k=b) w w'->w'.heap.size=w->wpList Ψ Ki Q rest (a.put op.dst undef) w'):wpList Ψ Ki Q (op::rest) a w:=
 iN 242 p y b 49 (pe x qv) (eX c.has c.r c.t) (pe {x with cp:=c} qv) 244 Ns ho hx hy hB ρp ρi ρi σf h
theorem yd (o:aU)(a:Ad)(s:SS)(now:Int)(w:ϖ)(H:ar o w a s)(h:¬now<s.clk)(h2:¬4611686018427387904<now):Calls Ψ 126 #[a.S,now] w λe w'=>e=ϰ fF/\ar o w' a {s with clk:=now}/\KO (λx=>x=a.S) w w':=by
 have S':=H.1;have rS:=S'.r;have d1:decide (now<s.clk)=false:=qF h;have d2:decide (4611686018427387904<now)=false:=qF h2;go_in;go_wp2;go_ret;have k:KO (λx=>x=a.S) w (w.setCell ⟨a.S,7,none⟩ now):=ρK;exact⟨rfl,H.numTo (clk:=now) (acc:=s.acc) k ρB,k⟩
open Classical in
noncomputable def dw (m:TM):Int:=if h:∃v,ff m Mc v then h.choose else Mc
theorem tS {m:TM} {d v u:Int} (h:ff m d v)(k:ff m d u):v=u:=ξ5
theorem yB {m:TM} {v:Int} (h:ff m Mc v):dw m=v:=by unfold dw;rw[dif_pos ⟨v,h⟩];exact tS (Classical.choose_spec (⟨v,h⟩:∃v,ff m Mc v)) h
theorem Fj (B:Nat)(m:TM)(fp:Nat->Prop)(w:ϖ)(H:aQ 209 w B m fp)(v:Int)(hv:dw m=v):
  CB 171 #[B] w v:=by
 refine(GY B m fp w H).mono ?_;rintro e w' ⟨u,rfl,hu,hb⟩;exact⟨by rw[<- hv,yB hu],hb⟩
theorem FX (o:aU)(a:Ad)(s:SS)(w:ϖ)(H:ar o w a s):
  CB 134 #[a.S] w (ι υ (min (dw s.lv) (fitT (s.kd 0)))):=by
 obtain⟨S',-,-,-,-,⟨TU,V',-⟩,Nf,D',-⟩:=H;obtain⟨t,fp,ht,T0,-,-⟩:=D'.out (p:=0) rfl;obtain⟨x,hx⟩:=Nq (dw s.lv);obtain⟨y,hy⟩:=Nq (fitT (s.kd 0));rw[hx,hy];change Hid _ at hx hy ht;clear D';have Rr:=S'.r;have Ln:=((am Γ Θ Nf 0 (z:=Kp) ρm).2.trans ρT);unfold CB;go_in;go_wp2_with fail;refine bR (θ5 (Ks (λ_=>False) w) S' V' Nf T0) ?_;clear Rr;rintro v1 ⟨I',Lp,V'1,Mz,Wx⟩ Rr;replace Ln:=((am Γ Θ Mz 0 (z:=Kp) ρm).2.trans ρT);have q:=af Lp;have Ms:=λd os=>((am Γ Θ (Mz.grow d os) 0 (z:=Kp) ρm).2.trans ρT);refine Wq ?_
 repeat (go_big_quiet_step ((first
   | (go_at_call 171;(with_reducible exact cD (Fj a.LV _ TU _ (V'1.below (qW _ _ _)) x hx.out)))
   | (go_at_call 172;(with_reducible exact cD (Dq t (s.kd 0) fp _ (Wx.below (qW _ _ _)) y hy.out))))))
 refine bE (θ5 Lp V'1 Mz Wx I') ?_;clear Rr;rintro v2 ⟨MT,V'2,PE,T02,J'⟩ Rr;replace Ln:=((am Γ Θ PE 0 (z:=Kp) ρm).2.trans ρT);clear q Ms Lp V'1 Mz Wx;go_wp2;go_ret;exact⟨rfl,(J'.step0 ρE).toBelow⟩
theorem jQ {L:List CD}:∀{xs ys:List Int} {i:Int},dB L i xs->dB L i ys->xs=ys
 | [],[],_,_,_=>rfl
 | [],y::r,i,h,⟨c,h1,_⟩=>by have h:fc L i=none:=h;rw[h] at h1;cases h1
 | x::r,[],i,⟨c,h1,_⟩,h=>by have h:fc L i=none:=h;rw[h] at h1;cases h1
 | x::r,y::q,i,⟨c,h1,h2,h3⟩,⟨d,k1,k2,k3⟩=>by rw[h1] at k1;cases k1;rw[h2,k2,jQ h3 k3]
open Classical in
noncomputable def IA (L:List CD) (i:Int):Nat:=if h:∃xs,dB L i xs then h.choose.length else 0
theorem tJ {L:List CD} {xs:List Int} {i:Int} (h:dB L i xs):IA L i=xs.length:=by unfold IA;rw[dif_pos ⟨xs,h⟩];exact qG List.length (jQ (Classical.choose_spec (⟨xs,h⟩:∃xs,dB L i xs)) h)
theorem xX (o:aU)(a:Ad)(s:SS)(now:Int)(w:ϖ)(H:ar o w a s)(W:s.Wf):Calls Ψ 160 #[a.S,now] w λe w'=>∃i b ok,e=ϰ (χ #[ι ε i,β b,β ok])/\((ok=true/\SS.Choose s now (some (i,b)))\/(ok=false/\i=0/\b=false/\SS.Choose s now none))/\Below w w w':=by
 obtain⟨S',-,NC,E',-,⟨TU,V',-⟩,Nf,D',-⟩:=id H;have Rr:=S'.r;go_in;go_wp2_with fail;refine(Fk a.LV s.lv TU now _ w V' rfl).mono ?_;rintro e v1 ⟨i,ok,rfl,SH,kx⟩;have H1:=H.below kx;have z1:=kx.size;rcases ok with _|_
 rotate_left
 ·replace SH:=ag SH;go_wp2;go_returns;exact⟨i,true,true,rfl,.inl ⟨rfl,.inl ⟨i,SH.out,rfl⟩⟩,kx.trans (Below.mono ρE z1)⟩
 obtain⟨rfl,Qd⟩:=id SH;replace Qd:=ag Qd;replace SH:=ag SH;clear V';go_wp2_with fail;go_loopw [9] (λt wr=>∃i:Int,t=ι ε i/\ar o wr a s/\bT s.L i=true/\(∃xs,dB s.L i xs/\xs.length<=1000)/\(∀r,SS.Chain s now i r->SS.Chain s now 0 r)/\Below w w wr) (λt _=>1000 - IA s.L (intOf t));case atStart=>exact⟨0,rfl,H1,rfl,⟨[],by show fc s.L 0=none;exact W.nz,by simp⟩,λr h=>h,kx⟩
 case round=>
  clear S' NC E' Nf D' H1 kx;obtain⟨i,rfl,H0,Nj,⟨xs,Kq,SJ⟩,K8,Kj⟩:=hrel;obtain⟨Te,-,NL,E',-,-,N6,D',-⟩:=id H0;obtain⟨t,fp,ht,Yx,-,-⟩:=D'.out Nj;have zw:=Kj.size;replace Nj:=ag Nj;replace ht:=ag ht;replace K8:=ag K8;replace Kq:=ag Kq;clear D';have lK:=((am Γ Θ N6 i (z:=Kp) ρm).2.trans ρT);have Ss:=Te.r;go_wp2_with fail;refine(Fl t (s.kd i) fp now _ wr Yx rfl).mono ?_;rintro e v2 ⟨j,ok,rfl,XO,kx⟩;have H2:=H0.below kx;have z2:=kx.size;rcases ok with _|_
  ·obtain⟨rfl,-⟩:=id XO;replace XO:=ag XO;go_wp2;go_returns;exact⟨0,false,false,rfl,.inr ⟨rfl,rfl,rfl,.inr ⟨SH.out,.inr ⟨K8.out _ (.none XO.out),rfl⟩⟩⟩,Kj.trans ((kx.trans (Below.mono ρE z2)).mono zw)⟩
  ·obtain⟨y,hy,-⟩:=id XO;obtain⟨c,hc,Lj⟩:=W.ids i j (by rw[hy];simp);obtain⟨MT,-,Qh,ZC,-,-,PE,-,-⟩:=id H2;obtain⟨b,qv,hb,KU,LU,-,-⟩:=ZC.at hc;obtain⟨lf,LY⟩:=Nq ((s.e j).c.lf);have lB:=((am Δ Θ Qh j (z:=Kp) ρm).2.trans (by rw[hb];try rfl));have lX:=(aj.c3 LU).trans (by rw[LY]);replace Ss:=MT.r;replace XO:=ag XO;replace hy:=ag hy;replace hc:=ag hc;replace LY:=ag LY;replace Lj:=ag Lj;replace hb:=ag hb;replace KU:=ag KU;clear lK E' ZC;rcases lf with _|_
   ·go_wp2;go_roundw;case rel=>exact⟨j,rfl,H2.below ρE,by unfold bT;rw[hc.out];have:=LY.out;rw[KU.out] at this;simp[this],(W.up c (aM hc.out).1).imp λys h=>⟨(aM hc.out).2 ▸ h.1,h.2⟩,λr h=>K8.out r (.inner XO.out LY.out h),Kj.trans ((kx.trans (Below.mono ρE z2)).mono zw)⟩
    case measure=>
     obtain⟨ys,KR,QY⟩:=W.up c (aM hc.out).1;rw[(aM hc.out).2] at KR;have e1:=tJ Kq.out;have e2:=tJ KR;have e3:dB s.L j (j::xs):=⟨c,hc.out,rfl,by rw[Lj.out];exact Kq.out⟩;have e4:=tJ e3;simp only[intOf,mD] at*;omega
   ·go_wp2;go_returns;exact⟨j,false,true,rfl,.inl ⟨rfl,.inr ⟨SH.out,.inl ⟨j,K8.out _ (.leaf XO.out LY.out),rfl⟩⟩⟩,Kj.trans ((kx.trans (Below.mono ρE z2)).mono zw)⟩
theorem ro {w:ϖ} {B:Nat} {KG:Int} {c:Nat} {l:List PK} {fp:Nat->Prop} (H:aW w B KG c l fp):-Mc<=aw l/\aw l<=Mb:=by
 obtain⟨R,S,f,ps,k0,k1,k2,k3,k4,k5,B',G,MW,KC,_⟩:=H;cases l with
 | nil=>simp[aw]
 | cons p r=>have:=KC p ρp;simp only[aw];omega
theorem yS (B:Nat)(KG:Int)(c:Nat)(l:List PK)(fp:Nat->Prop)(w:ϖ)(H:aW w B KG c l fp)(n:Int)(hn:aw l=n):
  CB 220 #[B] w (ι ε n):=by
 rw[<- hn];exact Gl B KG c l fp w H
theorem uW {l:LF} {x:Bool} {s h:Int} (ol:l.ok):(if x then l.took s h else l.headed h).ok/\(0<=(if x then l.took s h else l.headed h).e/\(if x then l.took s h else l.headed h).e<=Ma)/\(0<=(if x then l.took s h else l.headed h).t/\(if x then l.took s h else l.headed h).t<=Ma):=by
 have key:∀(m:LF) (h:Int),m.ok->(m.headed h).ok/\(0<=(m.headed h).e/\(m.headed h).e<=Ma)/\(0<=(m.headed h).t/\(m.headed h).t<=Ma):=by
  intro m h om;unfold LF.headed;split
  ·have r1:=RN.reach_rng om.2.1 (m.p*65536);have r2:=RN.reach_rng om.1 (IntKind.u64.wrap (m.p+h)*65536);exact⟨om,by simp only[];omega,by simp only[];omega⟩
  ·exact⟨om,by simp,by simp⟩
 cases x with
 | false=>exact key l h ol
 | true=>simp only[if_true];unfold LF.took;exact key _ h ⟨ol.1,ol.2.1,te _⟩
theorem kJ (s:SS)(i:Int):s.setE i (s.e i)=s:=by
 have:ay s.e i (s.e i)=s.e:=funext λj=>by unfold ay;split<;>simp_all
 unfold SS.setE;rw[this]
theorem ar.same {o:aU} {w:ϖ} {a:Ad} {s s':SS} (h:ar o w a s)(e:s=s'):ar o w a s':=e ▸ h
theorem qz {s:SS} {i len:Int} {x:Bool} {l:LF} (hr:SS.real (s.e i).c=true)(hl:(if x then (s.e i).du.took len (aw (s.e i).q) else (s.e i).du.headed (aw (s.e i).q))=l)(hq:(s.e i).q≠[]):s.due i len x={(s.setE i {s.e i with du:=l}) with lv:=aP s.lv i (some (l.e,l.t))}:=by unfold SS.due;rw[qP hr,hl,qI hq];rfl
theorem uV {s:SS} {i len:Int} {x:Bool} {l:LF} (hr:SS.real (s.e i).c=true)(hl:(if x then (s.e i).du.took len (aw (s.e i).q) else (s.e i).du.headed (aw (s.e i).q))=l)(hq:(s.e i).q=[]):s.due i len x={(s.setE i {s.e i with du:=l}) with lv:=aP (aP s.lv i (some (l.e,l.t))) i none}:=by unfold SS.due;rw[qP hr,hl,qP hq];rfl
theorem DW (o:aU)(a:Ad)(s:SS)(i len:Int)(by_:Bool)(c:CD)(b:Nat)(w:ϖ)(H:ar o w a s)(W:s.Wf)(hc:fc s.L i=some c)(LY:c.lf=true)(hb:lk i a.LB=some (ψ b))(KC:-Mc<=len/\len<=Mb):Calls Ψ 164 #[a.S,b,ι ε len,β by_] w λe w'=>e=ϰ (χ #[])/\∃o',ar o' w' a (s.due i len by_)/\(∀x,x<w.heap.size->o' x=o x)/\KO (λx=>(o x).mine) w w':=by
 obtain⟨S',T',NC,E',A',⟨TU,V',QQ⟩,Nf,D',oS,oT,oM,Uq,Us⟩:=id H;obtain⟨b2,qv,Kx,KU,E0,-⟩:=E'.out hc;have eb:=iZ (hb.symm.trans Kx);subst eb;obtain⟨X0,ob,Q0,ok⟩:=E0;have X':aj w b qv (s.e i):=X0;have SE:(s.e i).c.lf=true:=by rw[KU];exact LY
 unfold ed at Q0;rw[qP SE] at Q0;obtain⟨Q,Qo,rfl,Q',Pg⟩:=Q0;have P':(s.e i).c.id=i:=by rw[KU];exact(aM hc).2
 obtain⟨rl,Nv⟩:=Nq (SS.real (s.e i).c);have rng:0<=(s.e i).c.r0/\0<=(s.e i).c.r1/\0<=(s.e i).c.r2:=by rw[KU];obtain⟨h1,-⟩:=id H;exact(T'.2.2 c (aM hc).1).2.2.1
 obtain⟨MI,hhd⟩:=Nq (aw (s.e i).q);have rhd:-Mc<=MI/\MI<=Mb:=by rw[<- hhd];exact ro Q'
 have Mo:=W.lvs;obtain⟨L2,Nx⟩:=Nq (if by_ then (s.e i).du.took len MI else (s.e i).du.headed MI);have Se:L2.ok/\(0<=L2.e/\L2.e<=Ma)/\(0<=L2.t/\L2.t<=Ma):=by rw[<- Nx];exact uW ok.1
 have okd:=ok.1;change Hid _ at P' KU hhd Pg QQ Mo ok;have Ua:=ag hb;have hc0:=ag hc;have Qy:=ag Nv;clear Nv T' NC E' A' Nf D' Kx;have Rr:=S'.r;have KD:=(aj.c0 X');go_in;go_wp2_with (refine aj.lcl X' (.tmp 10) ρs ρs ρs ?_);go_wp2_with fail;refine(rb _ (s.e i).c.id (s.e i).c.par (s.e i).c.lf (s.e i).c.r0 (s.e i).c.r1 (s.e i).c.r2 (s.e i).c.l0 (s.e i).c.l1 (s.e i).c.l2 (s.e i).c.u0 (s.e i).c.u1 (s.e i).c.u2 (s.e i).c.pk (s.e i).c.by_ rng rl Qy.out).mono ?_;rintro e v1 ⟨rfl,kx⟩;have Kj:KO (λy=>y=b) w w:=KO.refl _ _;obtain⟨Lp,LH,Ww,I'⟩:=Mw kx (θ4 S' X' Q' (Ks (λy=>y=b) w));clear kx S' Q';replace Rr:=Lp.r;replace KD:=(aj.c0 LH);rcases rl with _|_
 ·have he:s.due i len by_=s:=by unfold SS.due;rw[Qy.out];simp
  replace he:=ag he;go_wp2;go_returns;rw[he.out];exact⟨rfl,o,(H.entTo hc hb KU.out (I'.step0 ρE) τn ⟨LH.below ρE,ob,by unfold ed;rw[qP SE];exact⟨Q,Qo,rfl,Ww.below ρE,Pg.out⟩,ok.out⟩).same (kJ s i),λ_ _=>rfl,(I'.step0 ρE).mono σL⟩
 rcases by_ with _|_
 ·simp only[Bool.false_eq_true,if_false] at Nx;have Nx:=ag Nx;go_wp2_with fail;refine bR (θ4 I' Lp LH Ww) ?_;clear Rr;rintro v2 ⟨J',MT,LU,UE⟩ Rr;replace KD:=(aj.c0 LU);have q:=af MT;have KS:=λd os=>(aj.c0 (LU.below (qW _ d os)));refine Ws 13 (oR ?_)
  repeat (first
   | (refine aj.qdu LU (.tmp 32) ρs ρs ρs ?_;(try simp only[Act.put,List.setIfInBounds_toArray,List.set_cons_succ,List.set_cons_zero]))
   | (go_big_quiet_step ((first
    | (go_at_call 220;(with_reducible exact cD (yS Q _ _ _ Qo _ (UE.below (qW _ _ _)) MI hhd.out)))
    | (go_at_call 221;(with_reducible exact cD (t8 _ L2 MI _ okd rhd Nx.out)))))))
  refine bE (θ4 MT LU UE J') ?_;clear Rr;rintro v3 ⟨MU,LW,Yv,Kk⟩ Rr;replace KD:=(aj.c0 LW);clear q KS MT LU UE;refine aj.sdu LW L2 (.tmp 41) (.tmp 39) ρs ρs ρs ρs ?_;intro v4 LX kx zx;have OM:=MU.ko kx τM;have Xk:=Yv.ko kx κk;have Km:KO (λy=>y=b) w v4:=Kk.trans kx σg;replace Rr:=OM.r;replace KD:=(aj.c0 LX);replace KL:=((aj.c1 LX).trans ρu);replace MA:=(aj.c36 LX);replace Wd:=(aj.c37 LX);have H4:=H.entTo hc hb (x:={s.e i with du:=L2}) KU.out Km τn ⟨LX,ob,by unfold ed;rw[qP SE];exact⟨Q,Qo,rfl,Xk,Pg.out⟩,⟨Se.1,Se.2.1,Se.2.2,ok.out.2.2.2⟩⟩;have Zk:KO (λx=>(o x).mine) w v4:=Km.mono σL;have V4:=V'.ko Km σ2;clear kx zx Km X';have Km:=Zk;clear Zk;go_wp2_with fail;refine bR (θ6 Km H4 V4 OM LX Xk) ?_;clear Rr;rintro v5 ⟨Kw,H5,V5,NE,LA,ZO⟩ Rr;replace KD:=(aj.c0 LA);replace KL:=((aj.c1 LA).trans ρu);replace MA:=(aj.c36 LA);replace Wd:=(aj.c37 LA);have q:=af NE;have KS:=λd os=>(aj.c0 (LA.below (qW _ d os)));have Lg:=λd os=>((aj.c1 (LA.below (qW _ d os))).trans ρu);have Oh:=λd os=>(aj.c36 (LA.below (qW _ d os)));have qX'3:=λd os=>(aj.c37 (LA.below (qW _ d os)));refine Ws 19 (gH ?_);refine bE (θ6 H5 V5 NE LA ZO Kw) ?_;clear Rr;rintro v6 ⟨H6,V6,Pa,MP,Q'6,KH⟩ Rr;replace KD:=(aj.c0 MP);replace KL:=((aj.c1 MP).trans ρu);replace MA:=(aj.c36 MP);replace Wd:=(aj.c37 MP);clear q KS Lg Oh qX'3 H5 V5 NE LA ZO;go_wp2_with fail;refine(Ao a.LV s.lv TU i L2.e L2.t (s.L.map CD.id) _ V6 Se.2.1 Se.2.2 (λj hj=>jh ((Mo.out j hj).imp λc h=>h.1)) (by rw[nl];have:=W.len;omega)).mono ?_;rintro e v7 ⟨rfl,TT⟩;have H7:=H6.lvTo QQ.out TT;obtain⟨fp7,TA,hfp7,kx⟩:=TT;have Q'7:=Q'6.ko kx (λy hy f=>by have h1:=Pg.out y hy;rw[QQ.out y f] at h1;cases h1);have Tf:=Pa.ko kx (λf=>by rw[QQ.out _ f] at oS;cases oS);have Pd:=MP.ko kx (λf=>by rw[QQ.out _ f] at ob;cases ob);have z6:=KH.size;have YZ:∀x,x<w.heap.size->o.more v6 .lv x=o x:=λx hx=>aU.more_lt ρa;have KV:=KH.trans kx τz;have z7:=kx.size;clear kx H6 V6;have lX0:=aj.c0 Pd;have lX1:=(aj.c1 Pd).trans ρu;have Ss:=Tf.r;obtain⟨n,hn⟩:=Nq ((s.e i).q.length);go_wp2_with fail;refine(ug Q _ _ _ Qo _ Q'7).mono ?_;rintro e u ⟨rfl,rfl⟩;rw[hn];by_cases h0:n=0
  ·subst h0;have NU:(s.e i).q=[]:=List.length_eq_zero_iff.1 hn;have he:s.due i len false={(s.setE i {s.e i with du:=L2}) with lv:=aP (aP s.lv i (some (L2.e,L2.t))) i none}:=uV Qy.out κo NU;change Hid _ at NU he;go_wp2_with fail;have TA7:=TA;clear TA;refine bR (θ5 KV H7 TA7 Tf Pd) ?_;clear Rr Ss;rintro v8 ⟨KZ,H8,TA8,RM,Pe⟩ Rr;replace KD:=(aj.c0 Pe);replace KL:=((aj.c1 Pe).trans ρu);have q:=af RM;have KS:=λd os=>(aj.c0 (Pe.below (qW _ d os)));have Lg:=λd os=>((aj.c1 (Pe.below (qW _ d os))).trans ρu);refine Ws 9 (gH ?_);refine bE (θ5 H8 TA8 RM Pe KZ) ?_;clear Rr;rintro v9 ⟨H9,TA9,S'9,X'9,Ll⟩ Rr;replace KD:=(aj.c0 X'9);replace KL:=((aj.c1 X'9).trans ρu);clear q KS Lg H8 TA8 RM Pe;go_wp2_with fail;refine(uz a.LV _ fp7 i (i::s.L.map CD.id) _ TA9 (λj hj=>by by_cases e:j=i;(· rw[e];simp);(· refine qb _ (jh ((Mo.out j ?_).imp λc h=>h.1));unfold aP at hj;rw[qI e] at hj;exact hj)) (by simp;have:=W.len;omega)).mono ?_;rintro e Ps ⟨er,rfl,TT⟩;have hf7:∀x,fp7 x->o.more v6 .lv x=.lv:=λx hx=>by
    rcases Nat.lt_or_ge x v6 with hl|hl
    ·rw[aU.more_lt hl];rcases hfp7 x hx with g|g;exact QQ.out x g;omega
    ·exact aU.more_ge hl
   have UC:=H9.lvTo hf7 TT;obtain⟨fp10,_,_,kx⟩:=TT;have z9:=Ll.size;have Lc:=Ll.trans kx κd;go_wp2_with fail;go_end0;rw[he.out];exact⟨rfl,_,UC.below ρE,λx hx=>(aU.more_lt ρa).trans (YZ x hx),Lc.step0 ρE⟩
  ·have Kr:((n:Int)==0)=false:=by rw[qN];omega
   have he:s.due i len false={(s.setE i {s.e i with du:=L2}) with lv:=aP s.lv i (some (L2.e,L2.t))}:=qz Qy.out κo (λe=>by rw[e] at hn;simp at hn;omega);change Hid _ at he hn;go_wp2_with fail;go_end0;rw[he.out];exact⟨rfl,_,H7.below ρE,YZ,KV.step0 ρE⟩
 ·simp only[if_true] at Nx;have Nx:=ag Nx;go_wp2_with fail;refine bR (θ4 I' Lp LH Ww) ?_;clear Rr;rintro v2 ⟨J',MT,LU,UE⟩ Rr;replace KD:=(aj.c0 LU);have q:=af MT;have KS:=λd os=>(aj.c0 (LU.below (qW _ d os)));refine Ws 14 (oR ?_)
  repeat (first
   | (refine aj.qdu LU (.tmp 18) ρs ρs ρs ?_;(try simp only[Act.put,List.setIfInBounds_toArray,List.set_cons_succ,List.set_cons_zero]))
   | (go_big_quiet_step ((first
    | (go_at_call 220;(with_reducible exact cD (yS Q _ _ _ Qo _ (UE.below (qW _ _ _)) MI hhd.out)))
    | (go_at_call 219;(with_reducible exact cD (Au _ L2 len MI _ okd KC rhd Nx.out)))))))
  refine bE (θ4 MT LU UE J') ?_;clear Rr;rintro v3 ⟨MU,LW,Yv,Kk⟩ Rr;replace KD:=(aj.c0 LW);clear q KS MT LU UE;refine aj.sdu LW L2 (.tmp 28) (.tmp 26) ρs ρs ρs ρs ?_;intro v4 LX kx zx;have OM:=MU.ko kx τM;have Xk:=Yv.ko kx κk;have Km:KO (λy=>y=b) w v4:=Kk.trans kx σg;replace Rr:=OM.r;replace KD:=(aj.c0 LX);replace KL:=((aj.c1 LX).trans ρu);replace MA:=(aj.c36 LX);replace Wd:=(aj.c37 LX);have H4:=H.entTo hc hb (x:={s.e i with du:=L2}) KU.out Km τn ⟨LX,ob,by unfold ed;rw[qP SE];exact⟨Q,Qo,rfl,Xk,Pg.out⟩,⟨Se.1,Se.2.1,Se.2.2,ok.out.2.2.2⟩⟩;have Zk:KO (λx=>(o x).mine) w v4:=Km.mono σL;have V4:=V'.ko Km σ2;clear kx zx Km X';have Km:=Zk;clear Zk;go_wp2_with fail;refine bR (θ6 Km H4 V4 OM LX Xk) ?_;clear Rr;rintro v5 ⟨Kw,H5,V5,NE,LA,ZO⟩ Rr;replace KD:=(aj.c0 LA);replace KL:=((aj.c1 LA).trans ρu);replace MA:=(aj.c36 LA);replace Wd:=(aj.c37 LA);have q:=af NE;have KS:=λd os=>(aj.c0 (LA.below (qW _ d os)));have Lg:=λd os=>((aj.c1 (LA.below (qW _ d os))).trans ρu);have Oh:=λd os=>(aj.c36 (LA.below (qW _ d os)));have qX'3:=λd os=>(aj.c37 (LA.below (qW _ d os)));refine Ws 19 (gH ?_);refine bE (θ6 H5 V5 NE LA ZO Kw) ?_;clear Rr;rintro v6 ⟨H6,V6,Pa,MP,Q'6,KH⟩ Rr;replace KD:=(aj.c0 MP);replace KL:=((aj.c1 MP).trans ρu);replace MA:=(aj.c36 MP);replace Wd:=(aj.c37 MP);clear q KS Lg Oh qX'3 H5 V5 NE LA ZO;go_wp2_with fail;refine(Ao a.LV s.lv TU i L2.e L2.t (s.L.map CD.id) _ V6 Se.2.1 Se.2.2 (λj hj=>jh ((Mo.out j hj).imp λc h=>h.1)) (by rw[nl];have:=W.len;omega)).mono ?_;rintro e v7 ⟨rfl,TT⟩;have H7:=H6.lvTo QQ.out TT;obtain⟨fp7,TA,hfp7,kx⟩:=TT;have Q'7:=Q'6.ko kx (λy hy f=>by have h1:=Pg.out y hy;rw[QQ.out y f] at h1;cases h1);have Tf:=Pa.ko kx (λf=>by rw[QQ.out _ f] at oS;cases oS);have Pd:=MP.ko kx (λf=>by rw[QQ.out _ f] at ob;cases ob);have z6:=KH.size;have YZ:∀x,x<w.heap.size->o.more v6 .lv x=o x:=λx hx=>aU.more_lt ρa;have KV:=KH.trans kx τz;have z7:=kx.size;clear kx H6 V6;have lX0:=aj.c0 Pd;have lX1:=(aj.c1 Pd).trans ρu;have Ss:=Tf.r;obtain⟨n,hn⟩:=Nq ((s.e i).q.length);go_wp2_with fail;refine(ug Q _ _ _ Qo _ Q'7).mono ?_;rintro e u ⟨rfl,rfl⟩;rw[hn];by_cases h0:n=0
  ·subst h0;have NU:(s.e i).q=[]:=List.length_eq_zero_iff.1 hn;have he:s.due i len true={(s.setE i {s.e i with du:=L2}) with lv:=aP (aP s.lv i (some (L2.e,L2.t))) i none}:=uV Qy.out κo NU;change Hid _ at NU he;go_wp2_with fail;have TA7:=TA;clear TA;refine bR (θ5 KV H7 TA7 Tf Pd) ?_;clear Rr Ss;rintro v8 ⟨KZ,H8,TA8,RM,Pe⟩ Rr;replace KD:=(aj.c0 Pe);replace KL:=((aj.c1 Pe).trans ρu);have q:=af RM;have KS:=λd os=>(aj.c0 (Pe.below (qW _ d os)));have Lg:=λd os=>((aj.c1 (Pe.below (qW _ d os))).trans ρu);refine Ws 9 (gH ?_);refine bE (θ5 H8 TA8 RM Pe KZ) ?_;clear Rr;rintro v9 ⟨H9,TA9,S'9,X'9,Ll⟩ Rr;replace KD:=(aj.c0 X'9);replace KL:=((aj.c1 X'9).trans ρu);clear q KS Lg H8 TA8 RM Pe;go_wp2_with fail;refine(uz a.LV _ fp7 i (i::s.L.map CD.id) _ TA9 (λj hj=>by by_cases e:j=i;(· rw[e];simp);(· refine qb _ (jh ((Mo.out j ?_).imp λc h=>h.1));unfold aP at hj;rw[qI e] at hj;exact hj)) (by simp;have:=W.len;omega)).mono ?_;rintro e Ps ⟨er,rfl,TT⟩;have hf7:∀x,fp7 x->o.more v6 .lv x=.lv:=λx hx=>by
    rcases Nat.lt_or_ge x v6 with hl|hl
    ·rw[aU.more_lt hl];rcases hfp7 x hx with g|g;exact QQ.out x g;omega
    ·exact aU.more_ge hl
   have UC:=H9.lvTo hf7 TT;obtain⟨fp10,_,_,kx⟩:=TT;have z9:=Ll.size;have Lc:=Ll.trans kx κd;go_wp2_with fail;go_end0;rw[he.out];exact⟨rfl,_,UC.below ρE,λx hx=>(aU.more_lt ρa).trans (YZ x hx),Lc.step0 ρE⟩
  ·have Kr:((n:Int)==0)=false:=by rw[qN];omega
   have he:s.due i len true={(s.setE i {s.e i with du:=L2}) with lv:=aP s.lv i (some (L2.e,L2.t))}:=qz Qy.out κo (λe=>by rw[e] at hn;simp at hn;omega);change Hid _ at he hn;go_wp2_with fail;go_end0;rw[he.out];exact⟨rfl,_,H7.below ρE,YZ,KV.step0 ρE⟩
end Go.Proofs.YtfdlemkplejdnaaGreat
