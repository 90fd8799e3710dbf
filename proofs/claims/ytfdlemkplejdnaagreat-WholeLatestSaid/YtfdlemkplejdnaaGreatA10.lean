/- WholeLatest, part 10. Conditions: none. -/
import Derived.Test.YtfdlemkplejdnaaGreatA6
import Derived.Test.YtfdlemkplejdnaaGreatA7
import Derived.Test.YtfdlemkplejdnaaGreatA8
import Derived.Sort.OwnSortedInts
import Derived.Shelf.Slices.In.SortNone
import Derived.Deep.OwnRows
import Derived.Lib.AppendStr
import Derived.ChangeKeysEq
namespace Go.Proofs.YtfdlemkplejdnaaGreat
open Go.RowKit Go.Sort
open Value renaming int->ι,pointer->ψ,slice->ζ,tuple->χ,agg->φ,map->μ,bool->β
open IntKind renaming u64->υ,i64->ε,u16->ω
open Ending renaming returned->ϰ
open Go.Proofs.Tryz renaming prog->Ψ,underlying3->Θ,underlying147->Δ,underlying152->Γ,underlying202->Φ,underlying39->Ξ,underlying207->Ω
open Go renaming World->ϖ,Value->ϗ
set_option linter.unusedVariables false
set_option linter.unusedSimpArgs false
set_option maxHeartbeats 8000000
set_option maxRecDepth 100000
def ae {α:Type} (e:TypeId)(n:Nat)(enc:α->List ϗ)(w:ϖ)(base:Nat)(v:ϗ)(l:List α):Prop:=w.ownsRow base e n v l.length (l.flatMap enc)
section
variable {α:Type} {e:TypeId} {n:Nat} {enc:α->List ϗ}
theorem ae.nil (w:ϖ)(base:Nat):ae e n enc w base Kn []:=⟨by simp,.inl ⟨rfl,rfl⟩⟩
theorem ae.below {w w':ϖ} {base:Nat} {v:ϗ} {l:List α} (h:ae e n enc w base v l)(hb:Below w w w'):ae e n enc w' base v l:=by
 obtain⟨h1,h2⟩:=h;refine⟨h1,?_⟩;rcases h2 with h2|⟨g,Kt,cur,e,hg,hh,r⟩
 ·exact .inl h2
 ·exact .inr ⟨g,Kt,cur,e,hg,(hb.block g (Array.getElem?_eq_some_iff.1 hh).1).trans hh,r⟩
instance {α:Type} {e n} {enc:α->List ϗ} {w base v} {l:List α}:Mv (ae e n enc w base v l) w (λv'=>ae e n enc v' base v l):=⟨λk h=>ae.below h k⟩
theorem ae.own_ge {w:ϖ} {base:Nat} {v:ϗ} {l:List α} (h:ae e n enc w base v l):∀k,v.ownBlock=some k->base<=k/\k<w.heap.size:=by
 intro k hk;rcases h.2 with ⟨e,_⟩|⟨g,Kt,cur,e,hg,hh,r⟩
 ·rw[e] at hk;cases hk
 ·rw[e] at hk;cases hk;exact⟨hg,(Array.getElem?_eq_some_iff.1 hh).1⟩
theorem ae.slice {w:ϖ} {base:Nat} {v:ϗ} {l:List α} (h:ae e n enc w base v l):∃a Kt,v=ζ a l.length Kt:=by
 rcases h.2 with ⟨e,h0⟩|⟨g,Kt,cur,e,_⟩
 ·exact⟨none,0,by rw[e,h0]⟩
 ·exact⟨_,Kt,e⟩
theorem ae.ne_blk {w:ϖ} {base:Nat} {v:ϗ} {l:List α} {B:Nat} {cs:Array ϗ} {t:TypeId} (h:ae e n enc w base v l)(hB:ah w B cs t)(ht:t≠e):some B≠v.ownBlock:=by
 intro q;rcases h.2 with ⟨hv,_⟩|⟨g,Kt,cur,hv,_,hh,_⟩
 ·rw[hv] at q;cases q
 ·rw[hv] at q;cases q
  unfold ah at hB;rw[hh] at hB;cases hB
  exact ht rfl
theorem ae.base_le {w:ϖ} {b b':Nat} {v:ϗ} {l:List α} (h:ae e n enc w b v l)(hb:b'<=b):ae e n enc w b' v l:=by
 refine⟨h.1,?_⟩;rcases h.2 with h2|⟨g,Kt,cur,e,hg,r⟩
 ·exact .inl h2
 ·exact .inr ⟨g,Kt,cur,e,by omega,r⟩
def AV (n:Nat)(enc:α->List ϗ)(w:ϖ)(b off:Nat)(L:List α):Prop:=∀i x,L[i]?=some x->∀j u,(enc x)[j]?=some u->w.cell? ⟨b,off+i*n+j,none⟩=some u
theorem AV.below {w w':ϖ} {b off K:Nat} {L:List α} (h:AV n enc w b off L)(hb:Below K w w')(hB:b<K):AV n enc w' b off L:=λi x hi j u hj=>
 (hb.cell (p:=⟨b,off+i*n+j,none⟩) hB).trans (h i x hi j u hj)
theorem gf (hn:∀x,(enc x).length=n):∀(L:List α),(L.flatMap enc).length=L.length*n
 | []=>by simp
 | x::r=>by rw[List.flatMap_cons,qL,hn,gf hn r,mD,Nat.add_mul];omega
theorem mm (hn:∀x,(enc x).length=n):∀(L:List α)(i:Nat)(x:α),L[i]?=some x->∀j u,(enc x)[j]?=some u->(L.flatMap enc)[i*n+j]?=some u
 | [],i,x,h=>by simp at h
 | y::r,0,x,h=>by intro j u hj;simp at h;subst h;have hj':=(List.getElem?_eq_some_iff.1 hj).1;rw[List.flatMap_cons,Nat.zero_mul,Nat.zero_add,List.getElem?_append_left hj'];exact hj
 | y::r,i+1,x,h=>by intro j u hj;have ih:=mm hn r i x σ1 j u hj;rw[List.flatMap_cons,List.getElem?_append_right (by rw[hn,Nat.add_mul];omega),hn,show (i+1)*n+j - n=i*n+j by rw[Nat.add_mul];omega];exact ih
theorem ae.at {w:ϖ} {base:Nat} {v:ϗ} {L:List α} (h:ae e n enc w base v L)(hn:∀x,(enc x).length=n):∃a Kt,∃g:Nat,v=ζ a L.length Kt/\L.length<=Kt/\(L≠[]->a=g)/\(L≠[]->g<w.heap.size)/\AV n enc w g 0 L:=by
 obtain⟨h1,h2⟩:=h;rcases h2 with ⟨rfl,h0⟩|⟨g,Kt,cur,rfl,hg,hh,hc,hm,hs,ht⟩
 ·have:L=[]:=List.length_eq_zero_iff.1 h0;subst this;exact⟨none,0,0,rfl,by simp,λh=>ax rfl h,λh=>ax rfl h,λi f hf=>by simp at hf⟩
 ·refine⟨_,Kt,g,rfl,hc,λ_=>rfl,λ_=>(Array.getElem?_eq_some_iff.1 hh).1,λi x hx j u hj=>?_⟩;have hi:=(List.getElem?_eq_some_iff.1 hx).1;have hj':=(List.getElem?_eq_some_iff.1 hj).1;rw[hn] at hj';have q:=mm hn L i x hx j u hj;have Ol:∀o,w.cell? ⟨g,o,none⟩=cur[o]?:=λo=>by simp[World.cell?,hh]
  rw[Ol,Nat.zero_add,<- Array.getElem?_toList];rw[<- ht] at q;have Ku:i*n+j<L.length*n:=by have:(i+1)*n<=L.length*n:=Nat.mul_le_mul_right n hi;rw[Nat.add_mul] at this;omega
  rw[List.getElem?_take_of_lt Ku] at q;exact q
end
open Go.Lib in
theorem au {α:Type} {e:TypeId} {n:Nat} {enc:α->List ϗ} {st:TypeId} {by_:Nat} {z:ϗ} (hu:Ψ.underlying st=some (.slice e))(Qv:(Ψ.info? e).map (λi=>(i.zero,i.size,i.bytes))=some (some z,n,by_))(hz:z.cells.size=n)(hn:∀x,(enc x).length=n)(h1:∀x,∀u ∈ enc x,u.oneCell'=true)(LQ:0<n)(YK:by_<=1000)
  {w:ϖ} {Ki:Array Oper} {rest:List Oper} {o:Oper} {a:Act} {Q:Exit->Act->ϖ->Prop} (Ns:o.guard=none) (sl x:Operand)
  (ho:o.op=.call {callee:=.builtin .append,args:=#[sl,x],argTypes:=#[st,st]})
  (base:Nat) (v:ϗ) (s:List α) (f:α) (B:Nat) (cs:Array ϗ) (MG:cs.toList=enc f) (hs:a.eval sl=v) (hx:a.eval x=ζ B 1 1) (h:ae e n enc w base v s) (hB:ah w B cs e) (MH:s.length<=1000000) (NQ:base<=w)
  (hk:∀v' w',ae e n enc w' base v' (s++[f])->KO (λx=>some x=v.ownBlock) w w'->wpList Ψ Ki Q rest (a.put o.dst v') w'):wpList Ψ Ki Q (o::rest) a w:=by
 refine wpList_plain Ns λK hK=>?_;obtain⟨i,hi,q⟩:=Option.map_eq_some_iff.1 Qv;simp only[Prod.mk.injEq] at q;obtain⟨v',w',hr,h2,h3,_⟩:=run_append_own_at (P:=Ψ) w base st o.type e i z n by_ hu hi q.1 q.2.1 q.2.2 hz LQ v s.length (s.flatMap enc) h ⟨B,0,none⟩ 1 1 (enc f) (by rw[hn,Nat.one_mul]) (λj u hj=>by rw[Addr.add_mid,hB.cell,Nat.zero_add,<- Array.getElem?_toList,MG];exact hj) (h1 f) σX (by have:(s.length+1)*by_<=(s.length+1)*1000:=Nat.mul_le_mul_left _ YK;omega) NQ
 refine δc ?_;refine hK _ _ (hk v' w' ?_ ⟨h3.os,h3.tape,h3.output,h3.size,λk hk KI=>h3.block k hk KI⟩);unfold ae;rw[qL,List.flatMap_append];simpa using h2
theorem AV.flat {α:Type} {n:Nat} {enc:α->List ϗ} (hn:∀x,(enc x).length=n)(h0:0<n) {w:ϖ} {b off:Nat} {L:List α} (h:AV n enc w b off L):∀t u,(L.flatMap enc)[t]?=some u->w.cell? ⟨b,off+t,none⟩=some u:=by
 intro t u ht;have hl:=(List.getElem?_eq_some_iff.1 ht).1;rw[gf hn] at hl;have hi:t / n<L.length:=Nat.div_lt_of_lt_mul (by rw[Nat.mul_comm];exact hl);have hj:t % n<n:=Nat.mod_lt _ h0;have hx:L[t / n]?=some L[t / n]:=List.getElem?_eq_getElem hi;obtain⟨x,hx⟩:∃x,L[t / n]?=some x:=⟨_,hx⟩;obtain⟨u',hu⟩:∃u',(enc x)[t % n]?=some u':=⟨_,List.getElem?_eq_getElem (by rw[hn];exact hj)⟩;have q:=mm hn L (t / n) _ hx (t % n) _ hu;have e:t / n*n+t % n=t:=by rw[Nat.mul_comm];exact Nat.div_add_mod t n
 rw[e,ht] at q;have:=h (t / n) _ hx (t % n) _ hu;rw[Nat.add_assoc,e] at this;rw[this,q]
def tR (w:ϖ)(r M:Nat):Nat:=match w.heap[r]?,w.heap[M]? with
 | some (.mapIter _ _ seen _),some (.map es _)=>(leftOf es seen).size
 | _,_=>0
theorem kA {w:ϖ} {r M:Nat} {R:List (Int × ϗ)} (h:iu w r M R):tR w r M=R.length:=by obtain⟨es,cl,si,c0,se,h1,h2,_,_,_,_,hs⟩:=h;unfold tR;rw[h1,h2];have:=qG List.length hs;simpa using this
theorem ae.kept {α:Type} {e:TypeId} {n:Nat} {enc:α->List ϗ} {w w':ϖ} {base r:Nat} {v:ϗ} {l:List α} (h:ae e n enc w base v l)(hr:r<base)(ho:∀b,b≠r->w'.heap[b]?=w.heap[b]?):ae e n enc w' base v l:=by
 obtain⟨h1,h2⟩:=h;refine⟨h1,?_⟩;rcases h2 with h2|⟨g,Kt,cur,e,hg,hh,q⟩
 ·exact .inl h2
 ·exact .inr ⟨g,Kt,cur,e,hg,(ho g ρa).trans hh,q⟩
theorem ae.ko {α:Type} {e:TypeId} {n:Nat} {enc:α->List ϗ} {w w':ϖ} {F:Nat->Prop} {base:Nat} {v:ϗ} {l:List α} (h:ae e n enc w base v l)(k:KO F w w')(hF:∀x,base<=x->some x=v.ownBlock->¬F x):ae e n enc w' base v l:=by
 obtain⟨h1,h2⟩:=h;refine⟨h1,?_⟩;rcases h2 with h2|⟨g,Kt,cur,e,hg,hh,q⟩
 ·exact .inl h2
 ·exact .inr ⟨g,Kt,cur,e,hg,(k.block g (Array.getElem?_eq_some_iff.1 hh).1 (hF g hg (by rw[e];rfl))).trans hh,q⟩
theorem ae.notown {α:Type} {e:TypeId} {n:Nat} {enc:α->List ϗ} {w:ϖ} {base:Nat} {v:ϗ} {l:List α} (h:ae e n enc w base v l) {x:Nat} (hx:x<base):¬some x=v.ownBlock:=λq=>by have:=(h.own_ge x q.symm).1;omega
abbrev HI (w:ϖ)(base:Nat)(v:ϗ)(L:List Int):Prop:=ae 3 1 (λx=>[Value.int .i64 x]) w base v L
theorem bG:(Ψ.info? 3).map (λi=>(i.zero,i.size,i.bytes))=some (some (ι ε 0),1,8):=by kernel_rfl
theorem HI.cell {w:ϖ} {base g n Kt:Nat} {L:List Int} (h:HI w base (ζ g n Kt) L)(i:Nat)(x:Int)(hi:L[i]?=some x):w.cell? ⟨g,i,none⟩=some (ι ε x)/\g<w/\base<=g:=by
 obtain⟨a,c,g',e,_,h1,h2,h3⟩:=ae.at h (λ_=>rfl);have KI:L≠[]:=by intro q;subst q;simp at hi
 have:=h1 KI;subst this;simp only[Value.slice.injEq,Option.some.injEq,Addr.mk.injEq,and_true] at e;obtain⟨rfl,_,_⟩:=e;have q:=h3 i x hi 0 _ rfl;simp only[Nat.zero_add,Nat.mul_one,Nat.add_zero] at q;exact⟨q,h2 KI,(h.own_ge g rfl).1⟩
theorem Df {w:ϖ} {base:Nat} {v:ϗ} {L:List Int} (h:HI w base v L)(MH:L.length<=1000000):Calls Ψ 111 #[v] w λe w'=>e=ϰ (χ #[])/\HI w' base v (L.mergeSort λx y=>decide (x<=y))/\KO (λx=>some x=v.ownBlock) w w':=by
 obtain⟨h1,⟨rfl,h0⟩|⟨g,Kt,cur,rfl,hg,hh,hc,hm,hs,ht⟩⟩:=h
 ·have:L=[]:=List.length_eq_zero_iff.1 h0;subst this;refine(Any.slices_Sort_int_none iK none 0 w).mono λe w' h=>?_;obtain⟨rfl,rfl⟩:=h;exact⟨rfl,by simpa using ae.nil _ _,KO.refl _ _⟩
 ·have hgs:g<w:=(Array.getElem?_eq_some_iff.1 hh).1;have fm:∀l:List Int,l.flatMap (λx=>[Value.int .i64 x])=l.map (Value.int .i64):=λl=>by induction l with|nil=>rfl|cons a r ih=>simp[ih]
  rw[fm,Nat.mul_one] at ht;refine(Any.slices_Sort_int iK g 0 Kt L w (holds_of_blockI hh ht) hgs ρa).mono λe w' h=>?_;obtain⟨rfl,n,os,rfl⟩:=h;have hl:=List.length_mergeSort (le:=λx y:Int=>decide (x<=y)) L;have q:=ownsRow_sortedI (n:=n) (os:=os) (e:=3) (ss:=L) (ts:=L.mergeSort λx y=>decide (x<=y)) hl hg hh hc hm hs;have r:=grownBy_sortedI (w:=w) (g:=g) (n:=n) (os:=os) (L.mergeSort λx y=>decide (x<=y)).toArray;refine⟨rfl,?_,⟨r.os,r.tape,r.output,r.size,λk hk KI=>r.block k hk KI⟩⟩;unfold HI ae;rw[fm,hl];exact q
theorem KO.toBelow {w v:ϖ} (h:KO (λ_=>False) w v):Below w w v:=⟨h.os,h.tape,h.output,h.size,λk hk=>h.block k hk id⟩
theorem KO.of_alloc {F:Nat->Prop} {w v:ϖ} {o:Obj} (h:KO F (w.alloc o) v):KO F w v:=⟨h.os,h.tape,h.output,by have:=h.size;simp at this;omega,λk hk hF=>(h.block k ρF hF).trans ((MapKept.heap_alloc w o).2 k hk)⟩
structure CD where
 id:Int
 par:Int
 lf:Bool
 r0:Int
 r1:Int
 r2:Int
 l0:Int
 l1:Int
 l2:Int
 u0:Int
 u1:Int
 u2:Int
 pk:Int
 by_:Int
abbrev CD.v (c:CD):ϗ:=φ #[ι ε c.id,ι ε c.par,β c.lf,ι υ c.r0,ι υ c.r1,ι υ c.r2,ι υ c.l0,ι υ c.l1,ι υ c.l2,ι υ c.u0,ι υ c.u1,ι υ c.u2,ι ε c.pk,ι ε c.by_]
def CD.ok (c:CD):Prop:=(1<=c.id/\c.id<=65536)/\(0<=c.par/\c.par<=65536)/\(0<=c.r0/\0<=c.r1/\0<=c.r2)/\(0<=c.l0/\0<=c.l1/\0<=c.l2)/\(0<=c.u0/\0<=c.u1/\0<=c.u2)
def tl (L:List CD):List (Int × ϗ):=L.map λc=>(c.id,c.v)
def fc (L:List CD)(id:Int):Option CD:=match L with
 | []=>none
 | c::r=>if id=c.id then some c else fc r id
def fD (x:CD):List CD->List CD
 | []=>[x]
 | c::r=>if x.id=c.id then x::r else c::fD x r
def rz (id:Int)(L:List CD):List CD:=L.filter λc=>decide (c.id≠id)
theorem yv (id:Int):∀L:List CD,lk id (tl L)=(fc L id).map CD.v
 | []=>rfl
 | c::r=>by
  have ih:=yv id r;simp only[tl,eJ,lk,fc] at ih ⊢;split
  ·rfl
  ·exact ih
theorem mS (x:CD):∀L:List CD,tl (fD x L)=dN x.id x.v (tl L)
 | []=>rfl
 | c::r=>by
  have ih:=mS x r;simp only[tl,eJ,dN,fD] at ih ⊢;split
  ·rename_i h;rw[eJ,h]
  ·rw[eJ,ih]
theorem Fp (id:Int)(L:List CD):tl (rz id L)=dL id (tl L):=by simp only[tl,rz,dL,List.filter_map];rfl
theorem aM {L:List CD} {id:Int} {c:CD}:fc L id=some c->c ∈ L/\c.id=id:=by
 induction L with
 | nil=>intro h;simp[fc] at h
 | cons a r ih=>intro h;exact ηH
def aF (w:ϖ)(T M:Nat)(L:List CD):Prop:=ah w T #[.map (some M)] 204/\aB w M (tl L)/\∀c ∈ L,c.ok
theorem aF.below {w v:ϖ} {T M:Nat} {L:List CD} (h:aF w T M L)(k:Below w w v):aF v T M L:=⟨h.1.below k h.1.size,h.2.1.below k,h.2.2⟩
instance {w T M L}:Mv (aF w T M L) w (λv'=>aF v' T M L):=⟨λk h=>aF.below h k⟩
theorem aF.ko {w v:ϖ} {F:Nat->Prop} {T M:Nat} {L:List CD} (h:aF w T M L)(k:KO F w v)(h1:¬F T)(h2:¬F M):aF v T M L:=⟨h.1.ko k h1,h.2.1.ko k h2,h.2.2⟩
theorem fa {w:ϖ} {M:Nat} {L:List CD} {id:Int} {c:CD} (h:aB w M (tl L))(hc:fc L id=some c):
  (Instr.lookup 202 (.map (some M)) (ι ε id) true).run Ψ w=.ok (χ #[φ (lp c.id c.par c.lf c.r0 c.r1 c.r2 c.l0 c.l1 c.l2 c.u0 c.u1 c.u2 c.pk c.by_),fF]) w/\(Instr.lookup 202 (.map (some M)) (ι ε id) false).run Ψ w=.ok (φ (lp c.id c.par c.lf c.r0 c.r1 c.r2 c.l0 c.l1 c.l2 c.u0 c.u1 c.u2 c.pk c.by_)) w:=by
 have q:=am Φ Θ h id (z:=φ (lp 0 0 false 0 0 0 0 0 0 0 0 0 0 0)) ρm;rw[yv,hc] at q;exact q
theorem iQ {w:ϖ} {M:Nat} {L:List CD} {id:Int} (h:aB w M (tl L))(hc:fc L id=none):
  (Instr.lookup 202 (.map (some M)) (ι ε id) true).run Ψ w=.ok (χ #[φ (lp 0 0 false 0 0 0 0 0 0 0 0 0 0 0),dO]) w/\(Instr.lookup 202 (.map (some M)) (ι ε id) false).run Ψ w=.ok (φ (lp 0 0 false 0 0 0 0 0 0 0 0 0 0 0)) w:=by
 have q:=am Φ Θ h id (z:=φ (lp 0 0 false 0 0 0 0 0 0 0 0 0 0 0)) ρm;rw[yv,hc] at q;exact q
def dP (L:List CD)(id:Int):CD:=(fc L id).getD ⟨0,0,false,0,0,0,0,0,0,0,0,0,0,0⟩
theorem aD {w:ϖ} {M:Nat} {L:List CD} {id:Int} {a:CD} {b:Bool} (h:aB w M (tl L))(ha:dP L id=a)(hb:(fc L id).isSome=b):
  (Instr.lookup 202 (.map (some M)) (ι ε id) true).run Ψ w=.ok (χ #[φ (lp a.id a.par a.lf a.r0 a.r1 a.r2 a.l0 a.l1 a.l2 a.u0 a.u1 a.u2 a.pk a.by_),β b]) w/\(Instr.lookup 202 (.map (some M)) (ι ε id) false).run Ψ w=.ok (φ (lp a.id a.par a.lf a.r0 a.r1 a.r2 a.l0 a.l1 a.l2 a.u0 a.u1 a.u2 a.pk a.by_)) w:=by
 subst ha;subst hb;rcases hc:fc L id with _|c
 ·have q:=iQ h hc;simp only[dP,hc];exact q
 ·have q:=fa h hc;simp only[dP,hc];exact q
def lenOf:ϗ->Nat
 | ζ _ n _=>n
 | _=>0
def dB (L:List CD):Int->List Int->Prop
 | id,[]=>fc L id=none
 | id,x::r=>∃c,fc L id=some c/\x=id/\dB L c.par r
theorem xC (a b:List CD):tl (a++b)=tl a++tl b:=by simp[tl]
theorem As {R:List CD} {R1 R2:List (Int × ϗ)} {f:Int × ϗ} (h:tl R=R1++f::R2):∃D1 c D2,R=D1++c::D2/\f=(c.id,c.v)/\R1=tl D1/\R2=tl D2:=by
 induction R1 generalizing R with
 | nil=>
  cases R with
  | nil=>simp[tl] at h
  | cons c r=>simp only[tl,eJ,List.nil_append,List.cons.injEq] at h;exact⟨[],c,r,rfl,h.1.symm,rfl,h.2.symm⟩
 | cons a R1 ih=>
  cases R with
  | nil=>simp[tl] at h
  | cons c r=>simp only[tl,eJ,List.cons_append,List.cons.injEq] at h;obtain⟨D1,x,D2,e1,e2,e3,e4⟩:=ih h.2;exact⟨c::D1,x,D2,by rw[e1];rfl,e2,by simp only[tl,eJ,List.cons.injEq];exact⟨h.1.symm,e3⟩,e4⟩
theorem mK {a b:List Int} (h:a.Perm b):(a.mergeSort λx y=>decide (x<=y))=(b.mergeSort λx y=>decide (x<=y)):=by
 have t:∀x y z:Int,decide (x<=y)=true->decide (y<=z)=true->decide (x<=z)=true:=by intro x y z;simp only[decide_eq_true_eq];omega
 have o:∀x y:Int,(decide (x<=y) || decide (y<=x))=true:=by intro x y;simp only[Bool.or_eq_true,decide_eq_true_eq];omega
 refine List.Perm.eq_of_pairwise (le:=λx y:Int=>x<=y) (λx y _ _ h1 h2=>by omega) ?_ ?_ ((List.mergeSort_perm a _).trans (h.trans (List.mergeSort_perm b _).symm))
 ·exact(List.pairwise_mergeSort t o a).imp ρp
 ·exact(List.pairwise_mergeSort t o b).imp ρp
def aN (p:CD->Bool)(L:List CD):List Int:=((L.filter p).map CD.id).mergeSort λx y=>decide (x<=y)
@[go_sem] abbrev fh (c:CD):Array ϗ:=#[ι ε c.id,ι ε c.par,β c.lf,c.r0,c.r1,c.r2,c.l0,c.l1,c.l2,c.u0,c.u1,c.u2,ι ε c.pk,ι ε c.by_]
theorem yn (T M:Nat)(L:List CD)(id:Int)(c:CD)(w:ϖ)(H:aF w T M L)(hc:fc L id=some c):
  CB 82 #[T,ι ε id] w (χ #[φ (fh c),Kz]):=by
 obtain⟨T',M',K7⟩:=H;have zT:=T'.size;have zM:=M'.size;have SM:=aC T' M';have Rr:=T'.r;have KP:=λo=>(fa (M'.alloc o) hc).1;unfold CB;go_in;go_wp2_with fail;refine JD (θ3 (Ks (λ_=>False) w) T' M') (λv=>ah v w (fh c) 43) ρB ?_;clear Rr;rintro v1 R1 ⟨I',MD,Ox⟩ Rr;replace KP:=λo=>(fa (Ox.alloc o) hc).1;replace rR:=R1.r;refine qO (v:=χ #[φ (fh c),Kz]) (by simp[results,Tryz.results82,go_sem,rR.1]) rfl ⟨rfl,I'.toBelow⟩
theorem jB (T M:Nat)(L:List CD)(id:Int)(w:ϖ)(H:aF w T M L)(hc:fc L id=none):
  CB 82 #[T,ι ε id] w (χ #[φ (lp 0 0 false 0 0 0 0 0 0 0 0 0 0 0),ι ε 6]):=by
 obtain⟨T',M',K7⟩:=H;have zT:=T'.size;have zM:=M'.size;have SM:=aC T' M';have Rr:=T'.r;have KP:=λo=>(iQ (M'.alloc o) hc).1;unfold CB;go_in;go_wp2_with fail;refine JD (θ3 (Ks (λ_=>False) w) T' M') (λv=>ah v w (lp 0 0 false 0 0 0 0 0 0 0 0 0 0 0) 43) ρB ?_;clear Rr;rintro v1 R1 ⟨I',MD,Ox⟩ Rr;replace KP:=λo=>(iQ (Ox.alloc o) hc).1;replace rR:=R1.r;refine qO (v:=χ #[φ (lp 0 0 false 0 0 0 0 0 0 0 0 0 0 0),ι ε 6]) (by simp[results,Tryz.results82,go_sem,rR.1]) rfl ⟨rfl,I'.toBelow⟩
theorem IF (T M:Nat)(L:List CD)(id:Int)(xs:List Int)(w:ϖ)(H:aF w T M L)(hu:dB L id xs)(hx:xs.length<=1000):Calls Ψ 116 #[T,ι ε id] w λe w'=>∃v,e=ϰ v/\HI w' w v xs/\Below w w w':=by
 go_in;have zT:=H.1.size;have zM:=H.2.1.size;go_wp2_with fail;go_loopw [1,5] (λa o wr=>∃(i:Int) (PC xs2:List Int),a=ι ε i/\HI wr w o PC/\dB L i xs2/\xs=PC++xs2/\aF wr T M L/\KO (λ_=>False) w wr) (λ_ o _=>xs.length - lenOf o);case atStart=>exact⟨id,[],xs,rfl,ae.nil _ _,hu,rfl,H,KO.refl _ _⟩
 case round=>
  obtain⟨i,PC,xs2,rfl,H0,hu0,Kq,T0,Kj⟩:=hrel;have zw:=Kj.size;obtain⟨oa,oc,rfl⟩:=H0.slice;cases xs2 with
  | nil=>go_wp2_with fail;refine Zc (θ3 Kj T0 H0) ?_;rintro v1 ⟨I',T1,H1⟩;refine(jB T M L i _ T1 hu0).mono ?_;rintro e v2 ⟨rfl,kx⟩;obtain⟨T2,H2,J'⟩:=Mw kx (θ3 T1 H1 I');clear kx;go_wp2_with fail;refine Zb (θ3 J' T2 H2) ?_;rintro v3 ⟨Kk,T3,H3⟩;go_ret;refine⟨_,rfl,by rw[Kq,qA];exact H3,Kk.toBelow⟩
  | cons x r=>
   obtain⟨c,hc,rfl,hu1⟩:=hu0;have UQ:PC.length<=1000:=by have:=qG List.length Kq;simp at this;omega
   go_wp2_with fail;refine Zc (θ3 Kj T0 H0) ?_;rintro v1 ⟨I',T1,H1⟩;refine(yn T M L x c _ T1 hc).mono ?_;rintro e v2 ⟨rfl,kx⟩;obtain⟨T2,H2,J'⟩:=Mw kx (θ3 T1 H1 I');clear kx;go_upto_region 5 with (fail);refine Jw (θ3 J' T2 H2) (λv=>ah v v2 (fh c) 43) ρB ?_;rintro v3 C3 ⟨Kk,T3,H3⟩;replace cC:=C3.cell;replace fC:=C3.frozen;replace zC:=C3.size;have zk:=Kk.size;go_wp2_with (refine au Tryz.underlying45 bG rfl (λ_=>rfl) ρC ρf ρf rfl (.tmp 17) (.tmp 19) rfl w (ζ oa PC.length oc) PC x v3 #[ι ε x] rfl ρs ρs (H3.below ρE) ρB ρa ρF ?_;intro o4 v4 H4 kx;replace kx:=kx.of_alloc;have T4:=T3.ko kx (ae.notown H3 zT) (ae.notown H3 zM);have C4:=C3.ko kx (λh=>ae.ne_blk H3 C3 ρf h);have Km:KO (λ_=>False) w v4:=Kk.trans kx (by intro y hy h;exact ax h (ae.notown H3 hy));have Vh:=Km.size;replace cC:=C4.cell;replace fC:=C4.frozen;replace zC:=C4.size);go_roundw;case rel=>exact⟨c.par,PC++[x],r,rfl,H4,hu1,by rw[Kq];simp,T4,Km⟩
   case measure=>obtain⟨_,_,rfl⟩:=H4.slice;have:=qG List.length Kq;simp[lenOf] at this ⊢;omega
theorem pp (T M:Nat)(L:List CD)(p:CD->Bool)(g:Nat)(lb:Array ϗ)(w:ϖ)(H:aF w T M L)(hL:L.length<=1000)(eg:∀args w,(callFunc g args).run Ψ w=.ok (.enter g args) w)
  (hf:∀c ∈ L,∀v,Below w w v->Calls Ψ g (#[φ (fh c)]++lb) v λe v'=>e=ϰ (β (p c))/\Below v v v'):Calls Ψ 136 #[T,.func (.func g) #[] lb] w λe w'=>∃v,e=ϰ v/\HI w' w v (aN p L)/\Below w w w':=by
 obtain⟨T1,M1,K7⟩:=H;have rT:=T1.r;have zM:=M1.size;go_in;go_wp2_with (refine m9 (K:=3) (E:=43) Φ rfl (.tmp 13) rfl M (tl L) ρs M1 ?_;intro w0 hI Ua MK);go_frame;go_loopw [5] (λo wr=>∃R D:List CD,iu wr w M (tl R)/\(D++R).Perm L/\HI wr (w+1) o ((D.filter p).map CD.id)/\KO (λ_=>False) w wr/\w.heap.size<wr) (λ_ wr=>tR wr w M);case atStart=>exact⟨L,[],hI,by simp,ae.nil _ _,KO.of_below Ua,by omega⟩
 case round=>
  obtain⟨R,D,I0,NT,H0,Kj,zw⟩:=hrel;have hlR:D.length+R.length=L.length:=by have:=NT.length_eq;rw[qL] at this;exact this
  have WG:((D.filter p).map CD.id).length<=1000:=by rw[nl];have:=qH p D;omega
  obtain⟨PC,LI⟩:=Nq ((D.filter p).map CD.id);rw[LI] at H0 WG;have LI:=ag LI;have OV:=kA I0;obtain⟨oa,oc,rfl⟩:=H0.slice;go_wp2_with (refine nD rfl (.tmp 14) rfl w M (tl R) ρs I0 ?_ ?_)
  ·intro hR0;have hR0:R=[]:=by cases R with|nil=>rfl|cons a r=>simp[tl] at hR0
   subst hR0;rw[qA] at NT;clear hlR OV;go_wp2_with fail;refine Zc (θ2 Kj H0) ?_;rintro v1 ⟨I',H1⟩;refine(Df H1 ρa).mono ?_;rintro e v2 ⟨rfl,S,kx⟩;have J':KO (λ_=>False) w v2:=I'.trans kx (λy hy h=>ax h (ae.notown H1 ρa));go_wp2;go_ret;refine⟨_,rfl,?_,J'.toBelow⟩;have S:=S.base_le (Nat.le_succ _);have q:=mK ((NT.filter p).map CD.id);rw[LI.out] at q;rw[q] at S;exact S
  ·intro R1 fk fv R2 w1 hR hI1 Kr Lv PM Qb;obtain⟨D1,c,D2,rfl,ef,rfl,rfl⟩:=As hR;obtain⟨rfl,rfl⟩:=Prod.mk.inj ef;have hcL:c ∈ L:=NT.subset ρp;rw[<- xC] at hI1;have I':KO (λ_=>False) w w1:=Kj.step Kr (by intro x hx h;omega);have H1:HI w1 (w+1) (ζ oa PC.length oc) PC:=H0.kept (Nat.lt_succ_self _) PM;have zw1:w.heap.size<w1:=ρa;have Qb:=ag Qb;clear I0 H0 Kj Kr PM Lv;have Qb:=Qb.out;have I1:=hI1;clear hI1;rcases WJ:p c with _|_
   ·have hq:=WJ;have WJ:=ag WJ;clear hq;go_upto_region 7 with (fail);refine Jw (θ3 I' H1 I1) (λv=>ah v w1 (fh c) 43) ρB ?_;rintro v2 C2 ⟨J',H2,I2⟩;replace cC:=C2.cell;replace fC:=C2.frozen;replace zC:=C2.size;go_wp2_with (go_at_fn g;refine(hf c hcL _ J'.toBelow).mono ?_;rintro e v4 ⟨e0,kx⟩;rw[WJ.out] at e0;subst e0;have H4:=H2.below kx;have I4:=I2.below kx;have C4:=C2.below kx C2.size;have Km:KO (λ_=>False) w v4:=J'.step0 kx;replace cC:=C4.cell;replace fC:=C4.frozen;replace zC:=C4.size;clear kx;have zk:=Km.size);go_roundw;case rel=>exact⟨D1++D2,D++[c],I4,List.Perm.trans τy NT,by rw[List.filter_append,List.filter_cons_of_neg (by simp[WJ.out]),List.filter_nil,qA,LI.out];exact H4,Km,by omega⟩
    case measure=>rw[kA I4,OV];simp[tl]
   ·have hq:=WJ;have WJ:=ag WJ;clear hq;go_upto_region 7 with (fail);refine Jw (θ3 I' H1 I1) (λv=>ah v w1 (fh c) 43) ρB ?_;rintro v2 C2 ⟨J',H2,I2⟩;replace cC:=C2.cell;replace fC:=C2.frozen;replace zC:=C2.size;go_wp2_with (first|(go_at_fn g;refine(hf c hcL _ J'.toBelow).mono ?_;rintro e v4 ⟨e0,kx⟩;rw[WJ.out] at e0;subst e0;have H4:=H2.below kx;have I4:=I2.below kx;have C4:=C2.below kx C2.size;have Km:KO (λ_=>False) w v4:=J'.step0 kx;replace cC:=C4.cell;replace fC:=C4.frozen;replace zC:=C4.size;clear kx;have zk:=Km.size)|(refine au Tryz.underlying45 bG rfl (λ_=>rfl) ρC ρf ρf rfl (.tmp 23) (.tmp 25) rfl (w+1) (ζ oa PC.length oc) PC c.id v4 #[ι ε c.id] rfl ρs ρs (H4.below ρE) ρB ρa ρF ?_;intro o6 v6 H6 kx;replace kx:=kx.of_alloc;have I6:=I4.ko kx (ae.notown H4 (Nat.lt_succ_self _)) (ae.notown H4 ρa);have C6:=C4.ko kx (λh=>ae.ne_blk H4 C4 ρf h);have KH:KO (λ_=>False) w v6:=Km.trans kx (by intro y hy h;exact ax h (ae.notown H4 ρa));have zk6:=KH.size;replace cC:=C6.cell;replace fC:=C6.frozen;replace zC:=C6.size));go_roundw;case rel=>exact⟨D1++D2,D++[c],I6,List.Perm.trans τy NT,by rw[List.filter_append,List.filter_cons_of_pos (by simp[WJ.out]),List.filter_nil,List.map_append,LI.out];exact H6,KH,by omega⟩
    case measure=>rw[kA I6,OV];simp[tl]
theorem It (c:CD)(w:ϖ):Calls Ψ 137 (#[φ (fh c)]++#[]) w λe w'=>e=ϰ fF/\Below w w w':=by go_in;go_wp2;go_ret;exact⟨rfl,ρE⟩
theorem Bf (c:CD)(w:ϖ):Calls Ψ 150 (#[φ (fh c)]++#[]) w λe w'=>e=ϰ (β c.lf)/\Below w w w':=by go_in;go_wp2;go_ret;exact⟨rfl,ρE⟩
theorem wg (c:CD)(id:Int)(X:Nat)(w:ϖ)(hX:ah w X #[ι ε id] 3):Calls Ψ 231 (#[φ (fh c)]++#[ψ X]) w λe w'=>e=ϰ (β (decide (c.par=id)))/\Below w w w':=by have Rr:=hX.r;rw[show decide (c.par=id)=(c.par==id) by rw[Bool.eq_iff_iff];simp];go_in;go_wp2;go_ret;exact⟨rfl,ρE⟩
theorem Ed (T M:Nat)(L:List CD)(w:ϖ)(H:aF w T M L)(hL:L.length<=1000):Calls Ψ 104 #[T] w λe w'=>∃v,e=ϰ v/\HI w' w v (aN (λ_=>true) L)/\Below w w w':=by
 go_in;go_wp2_with fail;refine(pp T M L (λ_=>true) 137 #[] w H hL (enters_of Tryz.func137 ρi rfl) (λc _ v _=>It c v)).mono ?_;rintro e v ⟨u,rfl,h,hb⟩;go_wp2;go_ret;exact⟨u,rfl,h,hb⟩
theorem vc (T M:Nat)(L:List CD)(w:ϖ)(H:aF w T M L)(hL:L.length<=1000):Calls Ψ 120 #[T] w λe w'=>∃v,e=ϰ v/\HI w' w v (aN (CD.lf) L)/\Below w w w':=by
 go_in;go_wp2_with fail;refine(pp T M L (CD.lf) 150 #[] w H hL (enters_of Tryz.func150 ρi rfl) (λc _ v _=>Bf c v)).mono ?_;rintro e v ⟨u,rfl,h,hb⟩;go_wp2;go_ret;exact⟨u,rfl,h,hb⟩
theorem kt (T M:Nat)(L:List CD)(id:Int)(w:ϖ)(H:aF w T M L)(hL:L.length<=1000):Calls Ψ 179 #[T,ι ε id] w λe w'=>∃v,e=ϰ v/\HI w' w v (aN (λc=>decide (c.par=id)) L)/\Below w w w':=by
 go_in;go_wp2_with fail;refine(pp T M L (λc=>decide (c.par=id)) 231 #[w] _ (H.below ρE) hL (enters_of Tryz.func231 ρi rfl) (λc _ v hv=>wg c id w v (ah.below ρB hv ρp))).mono ?_;rintro e v ⟨u,rfl,h,hb⟩;go_wp2;go_ret;exact⟨u,rfl,h.base_le ρp,Below.trans ρE (hb.mono ρp)⟩
theorem yl (T M:Nat)(L:List CD)(id:Int)(xs:List Int)(w:ϖ)(H:aF w T M L)(hu:dB L id xs)(hx:xs.length<=1000):
  CB 177 #[T,ι ε id] w (ι ε xs.length):=by
 unfold CB;go_in;go_wp2_with fail;refine(IF T M L id xs w H hu hx).mono ?_;rintro e v ⟨u,rfl,h,hb⟩;obtain⟨a,Kt,rfl⟩:=h.slice;go_wp2;go_ret;exact⟨rfl,hb⟩
def kV (L:List CD)(id:Int):Bool:=match fc L id with|none=>decide (id=0)|some c=>decide (id=0) || dv (kd c.l0 c.l1 c.l2)
theorem vd (T M:Nat)(L:List CD)(id:Int)(w:ϖ)(H:aF w T M L):
  CB 176 #[T,ι ε id] w (β (kV L id)):=by
 obtain⟨T',M',K7⟩:=H;have rT:=T'.r;have zM:=M'.size;by_cases h0:id=0
 ·have e:kV L id=true:=by unfold kV;cases fc L id<;>simp[h0]
  rw[e];subst h0;exact ξV
 ·have hb:(id==0)=false:=by simpa using h0
  rcases hc:fc L id with _|c
  ·have e:kV L id=false:=by unfold kV;rw[hc];simp[h0]
   have lM:=(iQ M' hc).2;have lM2:=λd os=>(iQ (M'.grow d os) hc).2;rw[e];have he:=ag e;clear e;unfold CB;go_in;go_wp2_with (go_at_call 105;refine(lb _ 0 0 false 0 0 0 0 0 0 0 0 0 0 0 ρa false ρf).mono ?_;rintro e v ⟨rfl,hb⟩);go_ret;exact⟨rfl,ρE⟩
  ·obtain⟨s,hs⟩:=Nq (dv (kd c.l0 c.l1 c.l2));have e:kV L id=s:=by unfold kV;rw[hc];simp[h0,hs]
   have lM:=(fa M' hc).2;have lM2:=λd os=>(fa (M'.grow d os) hc).2;have ok:=(K7 c (aM hc).1).2.2.2.1;rw[e];have he:=ag e;have hs:=ag hs;clear e;unfold CB;go_in;go_wp2_with (go_at_call 105;refine(lb _ _ _ _ _ _ _ _ _ _ _ _ _ _ _ ok s hs.out).mono ?_;rintro e v ⟨rfl,hb⟩);go_ret;exact⟨rfl,ρE⟩
theorem IC (T M:Nat)(L:List CD)(id:Int)(w:ϖ)(H:aF w T M L)(hL:L.length<=1000):Calls Ψ 143 #[T,ι ε id] w λe w'=>∃n L',e=ϰ (ι ε n)/\aF w' T M L'/\(n=0->L'=rz id L)/\(n≠0->L'=L)/\KO (λy=>y=M) w w':=by
 obtain⟨T',M',K7⟩:=H;have zT:=T'.size;have zM:=M'.size;have SM:=aC T' M';obtain⟨a,ha⟩:=Nq (dP L id);obtain⟨b,hb⟩:=Nq ((fc L id).isSome);have ha:=ag ha;have hb:=ag hb;have Rr:=T'.r;have KP:=(aD M' ha.out hb.out).1;go_in;go_upto_region 4 with (fail);refine jW (θ3 (Ks (λy=>y=M) w) T' M') (λv=>ah v w (fh a) 43) ρB ?_;clear Rr;rintro v1 Y1 ⟨I',MD,Ox⟩ Rr;replace KP:=(aD Ox ha.out hb.out).1;replace Rr:=Y1.r;rcases b with _|_
 ·go_wp2;go_ret;exact⟨6,L,rfl,⟨MD.below ρE MD.size,Ox.below ρE,K7⟩,λh=>ax h ρa,λ_=>rfl,I'.step0 ρE⟩
 ·go_wp2_with fail;refine tg (θ4 I' MD Ox Y1) ?_;clear Rr;rintro v2 ⟨J',Ng,N5,Y2⟩ Rr;replace KP:=(aD N5 ha.out hb.out).1;refine(kt T M L id _ ⟨Ng,N5,K7⟩ hL).mono ?_;rintro e v3 ⟨u,rfl,h,kx⟩;obtain⟨oa,oc,rfl⟩:=h.slice;clear Rr;obtain⟨⟨MO,Oi,Y3,Kk⟩,Rr⟩:=Mx kx (θ4 Ng N5 Y2 J');replace KP:=(aD Oi ha.out hb.out).1;clear kx;obtain⟨n,hn⟩:=Nq ((aN (λc=>decide (c.par=id)) L).length);rw[hn];have hn:=ag hn;rcases Nat.eq_zero_or_pos n with h0|h0
  ·subst h0;obtain⟨v4,Rp,O8,kx,zx⟩:=gW Φ Θ Oi id;have Km:=Kk.trans kx κb;have ME:=MO.ko kx (by intro h;omega);clear KP;go_wp2;go_ret;exact⟨0,rz id L,rfl,⟨ME.below ρE ME.size,by rw[Fp];exact O8.below ρE,λc hc=>K7 c (qE.1 hc).1⟩,λ_=>rfl,λh=>ax rfl h,Km.step0 ρE⟩
  ·have hg:(0:Int)<(n:Int):=by omega
   go_wp2;go_ret;exact⟨23,L,rfl,⟨MO.below ρE MO.size,Oi.below ρE,K7⟩,λh=>ax h ρa,λ_=>rfl,Kk.step0 ρE⟩
def iB (p:Int->Bool):List Int->Nat->Int
 | [],_=>-1
 | x::r,i=>if p x then i else iB p r (i+1)
theorem jD (p:Int->Bool):∀(l:List Int)(i:Nat),decide (0<=iB p l i)=l.any p
 | [],i=>rfl
 | x::r,i=>by
  unfold iB;rcases h:p x with _|_
  ·rw[qI ρp,jD p r,List.any_cons,h,Bool.false_or]
  ·rw[qP rfl,List.any_cons,h,Bool.true_or];exact qT ρa
theorem Cs (base:Nat)(v:ϗ)(xs:List Int)(p:Int->Bool)(g:Nat)(lb:Array ϗ)(w:ϖ)(H:HI w base v xs)(hx:xs.length<=1000000)(eg:∀args w,(callFunc g args).run Ψ w=.ok (.enter g args) w)
  (hp:∀x v,Below w w v->Calls Ψ g (#[ι ε x]++lb) v λe v'=>e=ϰ (β (p x))/\Below v v v'):
  CB 113 #[v,.func (.func g) #[] lb] w (ι ε (iB p xs 0)):=by
 obtain⟨oa,oc,rfl⟩:=H.slice;obtain⟨n,hn⟩:=Nq xs.length;rw[hn] at H ⊢;unfold CB;go_in;go_wp2_with fail;go_loopw [8] (λk wr=>∃(a b:List Int),k=ι ε (a.length:Nat)/\xs=a++b/\iB p xs 0=iB p b a.length/\HI wr base (ζ oa n oc) xs/\KO (λ_=>False) w wr) (λk _=>n - (intOf k).toNat);case atStart=>exact⟨[],xs,rfl,rfl,rfl,H,KO.refl _ _⟩
 case round=>
  obtain⟨a,b,rfl,Kq,hi,H0,Kj⟩:=hrel;have Kv:a.length+b.length=n:=ρx;obtain⟨q,hq⟩:=Nq a.length;rw[hq] at Kv hi ⊢;cases b with
  | nil=>exact ξE
  | cons x r=>
   refine δH ?_;intro Ku hd;have NI:xs[q]?=some x:=ρI;have KI:xs≠[]:=ρS;obtain⟨Vd,OA,g0,e0,KY,e1,_⟩:=ae.at H0 (λ_=>rfl);have e1:=e1 KI;obtain⟨rfl,_,rfl⟩:=qV e0;subst e1;obtain⟨cx,gx,bx⟩:=HI.cell H0 q x NI;have Nu:q<n:=ρa;change Hid _ at hi Kq hq hn KY Kv;rcases QU:p x with _|_
   ·replace QU:=ag QU;go_wp2_with (go_at_fn g;refine(hp x _ (Kj.step0 ρE).toBelow).mono ?_;rintro e v4 ⟨e0,kx⟩;rw[QU.out] at e0;subst e0;have Km:KO (λ_=>False) w v4:=Kj.step0 (Below.trans ρE (kx.mono ρp));have H4:=ae.below (ae.below H0 ρE) kx);go_roundw;case rel=>exact ξA
    case measure=>exact ξb
   ·replace QU:=ag QU;go_wp2_with (go_at_fn g;refine(hp x _ (Kj.step0 ρE).toBelow).mono ?_;rintro e v4 ⟨e0,kx⟩;rw[QU.out] at e0;subst e0;have Km:KO (λ_=>False) w v4:=Kj.step0 (Below.trans ρE (kx.mono ρp));have H4:=ae.below (ae.below H0 ρE) kx);go_ret;exact⟨by rw[hi.out,iB,qP QU.out];rfl,(Km.step0 ρE).toBelow⟩
theorem mH (base:Nat)(v:ϗ)(xs:List Int)(p:Int->Bool)(g:Nat)(lb:Array ϗ)(w:ϖ)(H:HI w base v xs)(hx:xs.length<=1000000)(eg:∀args w,(callFunc g args).run Ψ w=.ok (.enter g args) w)
  (hp:∀x v,Below w w v->Calls Ψ g (#[ι ε x]++lb) v λe v'=>e=ϰ (β (p x))/\Below v v v'):
  CB 78 #[v,.func (.func g) #[] lb] w (β (xs.any p)):=by
 rw[<- jD p xs 0];unfold CB;go_in;go_wp2_with fail;refine(Cs base v xs p g lb w H hx eg hp).mono ?_;rintro e v ⟨rfl,hb⟩;go_wp2;go_ret;exact⟨rfl,hb⟩
theorem Ac (base:Nat)(v:ϗ)(xs:List Int)(w:ϖ)(H:HI w base v xs)(hx:xs.length<=1000000)(hp:xs.Pairwise (· < ·)):Calls Ψ 112 #[v] w λe w'=>e=ϰ v/\Below w w w':=by
 obtain⟨oa,oc,rfl⟩:=H.slice;obtain⟨n,hn⟩:=Nq xs.length;rw[hn] at H ⊢;by_cases h2:(n:Int)<2
 ·have hd:=qT h2;go_in;go_wp2;go_ret;exact⟨rfl,ρE⟩
 have Np:=qF h2;have KI:xs≠[]:=by intro h;rw[h] at hn;simp at hn;omega
 obtain⟨Vd,OA,g0,e0,KY,e1,_⟩:=ae.at H (λ_=>rfl);have e1:=e1 KI;obtain⟨rfl,-,rfl⟩:=qV e0;subst e1;have hcap2:n<=oc:=ρa;replace hn:=ag hn;clear KY e0;go_in;go_wp2_with fail;go_loopw [3] (λk wr=>∃q:Nat,k=ι ε q/\1<=q/\q<=n/\KO (λ_=>False) w wr) (λk _=>n - (intOf k).toNat);case atStart=>exact⟨1,rfl,by omega,by omega,KO.refl _ _⟩
 case round=>
  obtain⟨q,rfl,LZ,Nu,Kj⟩:=hrel;have H0:=ae.ko H Kj (λ_ _ _ h=>h);have zw:=Kj.size;by_cases Ku:(q:Int)<(n:Int)
  rotate_left
  ·have hd:=qF Ku;go_wp2;go_ret;exact⟨rfl,(Kj.step0 ρE).toBelow⟩
  have hd:=qT Ku;have hql:q<xs.length:=τ8;obtain⟨r,rfl⟩:∃r,q=r+1:=⟨q - 1,by omega⟩;have cx:∀d os,_:=λd os=>(HI.cell (H0.below (qW wr d os)) (r+1) _ (List.getElem?_eq_getElem hql)).1;have cy:∀d os,_:=λd os=>(HI.cell (H0.below (qW wr d os)) r _ (List.getElem?_eq_getElem ρa)).1;have hgl:=(HI.cell H0 r _ (List.getElem?_eq_getElem ρa)).2.1;have Mp:xs[r]<xs[r+1]:=List.pairwise_iff_getElem.1 hp r (r+1) ρa hql ρa;obtain⟨x,hx⟩:=Nq (xs[r+1]);obtain⟨y,hy⟩:=Nq (xs[r]);rw[hx] at cx Mp;rw[hy] at cy Mp;have hb:(x==y)=false:=ρF;clear hx hy;have WL:((r:Int)+1 - 1)=r:=ρa;have Uj:IntKind.i64.wrap ((r:Int)+1 - 1)=r:=by rw[WL];exact IntWalk.i64_in _ ⟨by omega,by omega⟩
  go_upto_region 6 with (fail);refine Wq ?_
  repeat (go_big_quiet_step (fail))
  refine wpQuiet_nil ?_;intro _ Pk;obtain⟨pq,MY⟩:=Pk;subst MY;have I':KO (λ_=>False) w (grow (redrawn wr pq.d) pq.os):=Kj.step0 (qW wr pq.d pq.os);generalize grow (redrawn wr pq.d) pq.os=v1 at*;have Uf:r+1<n:=ρa;go_wp2;go_roundw;case rel=>exact⟨r+1+1,by go_num,by omega,by omega,I'.step0 ρE⟩
  case measure=>simp[intOf];omega
inductive TG where
 | no | sy | by_ | km | lv | tr | ac | ab | ao | ak
 | aki (p:Int) | kd (p:Int) | en (i:Int) | qu (i:Int)
abbrev aU:=Nat->TG
structure AS where
 (on:Int->Bool)
 (K:Int->List Int)
def AS.is (S:AS)(i:Int):Bool:=S.on i || decide (0<(S.K i).length)
def eZ (c:CD):Bool:=dv (kd c.l0 c.l1 c.l2)
abbrev Gk (c:CD):ϗ:=φ #[ι ε c.par,ι ε (if c.lf then 1 else 0)]
def eB (L:List CD)(i:Int):Option ϗ:=match fc L i with
 | some c=>if eZ c then some (Gk c) else none
 | none=>none
def mA (l:List Int):List (Int × ϗ):=l.map λi=>(i,ι ε 1)
def bu (o:aU)(w:ϖ)(LK:List (Int × ϗ))(K:Int->List Int):Prop:=∀p,((lk p LK).getD (.map none)=.map none/\K p=[])\/∃b,(lk p LK).getD (.map none)=.map (some b)/\aB w b (mA (K p))/\o b=.aki p
theorem bu.ko {o:aU} {w v:ϖ} {LK:List (Int × ϗ)} {K:Int->List Int} {F:Nat->Prop} (h:bu o w LK K)(k:KO F w v)(hF:∀x l p,aB w x l->o x=.aki p->¬F x):bu o v LK K:=λp=>(h p).imp id λ⟨b,h1,h2,h3⟩=>⟨b,h1,h2.ko k (hF b _ p h2 h3),h3⟩
theorem bu.below {o:aU} {w v:ϖ} {LK:List (Int × ϗ)} {K:Int->List Int} (h:bu o w LK K)(k:Below w w v):bu o v LK K:=λp=>(h p).imp id λ⟨b,h1,h2,h3⟩=>⟨b,h1,h2.below k,h3⟩
instance {o w LK K}:Mv (bu o w LK K) w (λv'=>bu o v' LK K):=⟨λk h=>bu.below h k⟩
theorem bu.own {o o':aU} {w:ϖ} {LK:List (Int × ϗ)} {K:Int->List Int} (h:bu o w LK K)(e:∀x,x<w.heap.size->o' x=o x):bu o' w LK K:=λp=>(h p).imp id λ⟨b,h1,h2,h3⟩=>⟨b,h1,h2,(e b h2.size).trans h3⟩
def ay {β:Type} (f:Int->β)(k:Int)(v:β):Int->β:=λj=>if j=k then v else f j
theorem bu.set {o o':aU} {w v:ϖ} {LK LK':List (Int × ϗ)} {K:Int->List Int} {p:Int} {l:List Int} {N:Nat} (h:bu o w LK K)(hk:∀b q l',q≠p->aB w b l'->o b=.aki q->aB v b l'/\o' b=.aki q)(hLK:∀q,(lk q LK').getD (.map none)=if q=p then .map (some N) else (lk q LK).getD (.map none))(hN:aB v N (mA l))(ho:o' N=.aki p):bu o' v LK' (ay K p l):=by
 intro q;rw[hLK q];unfold ay;by_cases e:q=p
 ·rw[qP e,qP e];exact .inr ⟨N,rfl,hN,by rw[e];exact ho⟩
 ·rw[qI e,qI e];rcases h q with g|⟨b,g1,g2,g3⟩
  ·exact .inl g
  ·obtain⟨k1,k2⟩:=hk b q _ e g2 g3;exact .inr ⟨b,g1,k1,k2⟩
theorem ae.ne_map {α:Type} {e:TypeId} {n:Nat} {enc:α->List ϗ} {w:ϖ} {base:Nat} {v:ϗ} {l:List α} {M:Nat} {L:List (Int × ϗ)} (h:ae e n enc w base v l)(hB:aB w M L):¬some M=v.ownBlock:=by
 intro q;rcases h.2 with ⟨hv,_⟩|⟨g,Kt,cur,hv,_,hh,_⟩
 ·rw[hv] at q;cases q
 ·rw[hv] at q;cases q
  obtain⟨es,ck,h1,_⟩:=hB;rw[hh] at h1;cases h1
def de (o:aU)(w:ϖ)(B A O C:Nat)(L:List CD)(S:AS):Prop:=ah w B #[.map (some A),.map (some O),.map (some C)] 216/\(∃LB,aB w A LB/\∀i,lk i LB=eB L i)/\(∃LO,aB w O LO/\∀i,(lk i LO).isSome=S.on i)/\
 (∃LK,aB w C LK/\bu o w LK S.K)/\o B=.ac/\o A=.ab/\o O=.ao/\o C=.ak
def dM (i:Int)(l:List Int):List Int:=if i ∈ l then l else l++[i]
theorem rH (i:Int):∀l:List Int,dN i Ko (mA l)=mA (dM i l)
 | []=>rfl
 | a::r=>by
  have ih:=rH i r;simp only[mA,eJ,dN,dM,qC] at ih ⊢;by_cases h:i=a
  ·rw[qP h,qP (.inl h),h];rfl
  ·rw[qI h,ih];by_cases h2:i ∈ r
   ·rw[qP h2,qP (.inr h2)];rfl
   ·rw[qI h2,qI (by simp[h,h2])];rfl
theorem yJ (i:Int)(l:List Int):dL i (mA l)=mA (l.filter λj=>decide (j≠i)):=by simp only[mA,dL,List.filter_map];rfl
theorem mB (l:List Int):(mA l).length=l.length:=by simp[mA]
def cj (L:List CD):Int->List Int->Prop
 | id,[]=>id=0
 | id,x::r=>x=id/\∃c,fc L id=some c/\eZ c=true/\cj L c.par r
theorem cj.size {L:List CD}:∀{xs:List Int} {i:Int},cj L i xs->True:=λ_=>trivial
theorem ae.one {α:Type} {e:TypeId} {n:Nat} {enc:α->List ϗ} {w:ϖ} {base g:Nat} {cs:Array ϗ} {x:α} (h:ah w g cs e)(hc:cs.toList=enc x)(hb:base<=g)(hn:(enc x).length=n):ae e n enc w base (ζ g 1 1) [x]:=by
 have hs:cs.size=n:=by rw[<- hn,<- hc];simp
 refine⟨by simp[hn],.inr ⟨g,1,cs,rfl,hb,h,qR _,by unfold maxLen;omega,by omega,?_⟩⟩;simp only[mE,Nat.one_mul,List.flatMap_cons,List.flatMap_nil,qA,hc];exact List.take_of_length_le ρa
def bo (K:Int->List Int):List Int->List Int × (Int->List Int)
 | []=>([],K)
 | [i]=>([i],ay K 0 (dM i (K 0)))
 | i::p::r=>if K p=[] then (i::(bo (ay K p (dM i (K p))) (p::r)).1,(bo (ay K p (dM i (K p))) (p::r)).2) else ([i],ay K p (dM i (K p)))
def dE (i:Int)(l:List Int):List Int:=l.filter λj=>decide (j≠i)
def aS (K:Int->List Int):List Int->List Int × (Int->List Int)
 | []=>([],K)
 | [i]=>([i],ay K 0 (dE i (K 0)))
 | i::p::r=>if dE i (K p)=[] then (i::(aS (ay K p (dE i (K p))) (p::r)).1,(aS (ay K p (dE i (K p))) (p::r)).2) else ([i],ay K p (dE i (K p)))
def TG.act:TG->Prop
 | .ao=>True
 | .ak=>True
 | .aki _=>True
 | _=>False
theorem xQ (S:AS)(B A O C:Nat)(o:aU)(L:List CD)(id:Int)(w:ϖ)(H:de o w B A O C L S):Calls Ψ 124 #[B,ι ε id] w λe w'=>e=ϰ (β (S.is id))/\w=w':=by
 obtain⟨B',⟨LB,A',hA⟩,⟨LO,O',hO⟩,⟨LK,C',hK⟩,oB,oA,oO,oC⟩:=H;have Rr:=B'.r;have lO:=(am Tryz.underlying213 Θ O' id (z:=Kz) ρm).1;rw[hO id] at lO;have lC:=(am Tryz.underlying214 Θ C' id (z:=.map none) ρm).2;obtain⟨x,hx⟩:=Nq ((lk id LO).getD Kz);rw[hx] at lO;unfold AS.is;obtain⟨b,hb⟩:=Nq (S.on id);rw[hb] at lO ⊢;obtain⟨n,hn⟩:=Nq ((S.K id).length);have lL:∃v,(lk id LK).getD (.map none)=v/\∀ty,(Builtin.len_ #[213] ty #[v]).run Ψ w=.ok (ι ε n) w:=by
  refine⟨_,rfl,λty=>?_⟩;rcases hK id with ⟨h1,h2⟩|⟨b,h1,h2,h3⟩
  ·rw[h1,<- hn,h2];exact kU (T:=213) (K:=3) (E:=3) (P:=Ψ) Tryz.underlying213 w ty
  ·rw[h1,<- hn];exact(aT (P:=Ψ) (T:=213) (K:=3) (E:=3) Tryz.underlying213 h2 ty).trans (by rw[mB])
 obtain⟨v,hv,lL⟩:=lL;rw[hv] at lC;clear hK hO hA hx hv;have Hn:=ag hn;clear hn;rcases b with _|_
 ·by_cases h0:n=0
  ·have hd:=df ((0:Int)<(n:Int));go_in;go_wp2;go_ret;exact⟨by rw[Hn.out];first|(simp[h0];done)|(subst h0;rfl),rfl⟩
  ·have hd:=dt ((0:Int)<(n:Int));go_in;go_wp2;go_ret;exact⟨by rw[Hn.out];first|(simp;done)|(simp;omega),rfl⟩
 ·go_in;go_wp2;go_ret;exact⟨by simp,rfl⟩
theorem wU (a b:Int)(v:ϖ):(Instr.field 219 (φ #[ι ε a,ι ε b]) 0).run Ψ v=.ok (ι ε a) v/\(Instr.field 219 (φ #[ι ε a,ι ε b]) 1).run Ψ v=.ok (ι ε b) v:=⟨by kernel_rfl,by kernel_rfl⟩
theorem FN (S:AS)(B A O C:Nat)(o:aU)(L:List CD)(leaf:Int)(xs:List Int)(c:CD)(w:ϖ)(H:de o w B A O C L S)(hc:fc L leaf=some c)(hs:eZ c=true)(hl:c.lf=true)(hi:S.is leaf=false)(hp:cj L leaf xs)(h00:fc L 0=none)(ML:xs≠[])(hx:xs.length<=1000):Calls Ψ 84 #[B,ι ε leaf] w λe w'=>∃v,e=ϰ (χ #[v,Kz])/\HI w' w v (bo S.K xs).1/\∃o',de o' w' B A O C L ⟨ay S.on leaf true,(bo S.K xs).2⟩/\(∀x,x<w.heap.size->o' x=o x)/\KO (λx=>(o x).act) w w':=by
 have H0:=H;obtain⟨B',⟨LB,A',hA⟩,⟨LO,O',hO⟩,⟨LK,C',KF⟩,oB,oA,oO,oC⟩:=H;have nBO:B≠O:=aC B' O';have nBC:B≠C:=aC B' C';have nAO:A≠O:=by intro h;rw[h,oO] at oA;cases oA
 have nAC:A≠C:=by intro h;rw[h,oC] at oA;cases oA
 have nCO:C≠O:=by intro h;rw[h,oO] at oC;cases oC
 have Vg:=B'.size;have zA0:=A'.size;have Zy:=O'.size;have Yl:=C'.size;obtain⟨q,hq⟩:=Nq c.par;have lA:∀{v:ϖ},aB v A LB->(Instr.lookup 212 (.map (some A)) (ι ε leaf) false).run Ψ v=.ok (φ #[ι ε q,Ko]) v:=fun {v} h=>ηe
 have lA2:∀(v:ϖ) (i:Int) (d:CD),aB v A LB->fc L i=some d->eZ d=true->∃y,(Instr.lookup 212 (.map (some A)) (ι ε i) false).run Ψ v=.ok (φ #[ι ε d.par,ι ε y]) v:=λv i d h hd hsd=>ηf
 have hA:=ag hA;have hO:=ag hO;have lA2:=ag lA2;have zS:=cj.size hp;have pf0:=λa b v=>(wU a b v).1;have pf1:=λa b v=>(wU a b v).2;have OO:=B'.cell;have OR:=B'.frozen;have OZ:=B'.size;have Yd:=(lA A');go_in;go_wp2_with fail;refine(xQ S B A O C o L leaf w H0).mono ?_;rintro e v ⟨rfl,rfl⟩;rw[hi];go_upto_region 7 with (fail);refine Zw (θ6 (Ks (λx=>(o x).act) w) B' A' O' C' KF) ?_;rintro v1 ⟨I',Mm,Qf,ZK,Vj,KF1⟩;replace OO:=Mm.cell;replace OR:=Mm.frozen;replace OZ:=Mm.size;replace Yd:=(lA Qf);have NY:=af Mm;have qA'0:=λd os=>(lA (Qf.grow d os));refine Ws 12 (gH ?_);refine Zq (θ6 Mm Qf ZK Vj KF1 I') ?_;rintro v2 ⟨LJ,QF,Td,Sj,WZ,J'⟩;replace OO:=LJ.cell;replace OR:=LJ.frozen;replace OZ:=LJ.size;replace Yd:=(lA QF);clear NY qA'0 Mm Qf ZK Vj KF1;obtain⟨v3,Ld,Vp,kx,zx⟩:=bv Tryz.underlying213 Θ Td leaf (ι ε q);have Lx:=LJ.ko kx σC;have Sh:=QF.ko kx σC;have Vk:=Sj.ko kx σC;have W9:=WZ.ko kx (λx l p _ e h=>by subst h;rw[oO] at e;cases e);have Kk:KO (λx=>(o x).act) w v3:=J'.trans kx (by intro x hx h;(try dsimp only at h);subst h;show TG.act _;(first|rw[oO]|rw[oC]);trivial);replace OO:=Lx.cell;replace OR:=Lx.frozen;replace OZ:=Lx.size;replace Yd:=(lA Sh);clear kx zx;go_wp2_with fail;go_loopw [6,7] (λt u wr=>∃(a r:List Int) (i:Int) (o1:aU) (K1:Int->List Int) (LK1:List (Int × ϗ)),u=ι ε i/\HI wr w t (a++[i])/\cj L i (i::r)/\a.length+r.length+1=xs.length/\bo S.K xs=(a++(bo K1 (i::r)).1,(bo K1 (i::r)).2)/\ah wr B #[.map (some A),.map (some O),.map (some C)] 216/\aB wr A LB/\aB wr O (dN leaf (ι ε q) LO)/\aB wr C LK1/\bu o1 wr LK1 K1/\(∀x,x<w.heap.size->o1 x=o x)/\KO (λx=>(o x).act) w wr) (λt _ _=>xs.length - lenOf t);case atStart=>
  obtain⟨r,rfl⟩:∃r,xs=leaf::r:=by
   cases xs with
   | nil=>exact ax rfl ML
   | cons x r=>exact⟨r,by rw[show x=leaf from hp.1]⟩
  exact⟨[],r,leaf,o,S.K,LK,rfl,ae.one ρB rfl Kk.size rfl,hp,by first|(simp;done)|(simp;omega),rfl,Lx.below ρE Lx.size,Sh.below ρE,Vp.below ρE,Vk.below ρE,W9.below ρE,λ_ _=>rfl,Kk.step0 ρE⟩
 case round=>
  clear OO OR OZ Yd Ld Lx Sh Vp Vk W9 Kk;obtain⟨a,r,i,o1,K1,LK1,rfl,G0,Lz,KC,NJ,PD,Sg,Wv,UA,Wu,PM,Kj⟩:=hrel;obtain⟨-,d,hd,hsd,SG⟩:=id Lz;have zw:=Kj.size;obtain⟨y,lA0⟩:=lA2.out _ _ _ Sg hd hsd;obtain⟨p,WK⟩:=Nq d.par;rw[WK] at SG lA0;have oC1:=(PM C Yl).trans oC;have oO1:=(PM O Zy).trans oO;have oB0:=oB;have oA0:=oA;have oO0:=oO;have oC0:=oC;clear hi oB oA oO oC;have oO:=oO1;have oC:=oC1;have Lu:a.length<=1000:=ρa;obtain⟨oa,oc,rfl⟩:=G0.slice;have WE:(a++[i]).length=a.length+1:=ρp;obtain⟨PC,LI⟩:=Nq (a++[i]);rw[LI] at G0 WE ⊢;have SJ:PC.length<=1001:=ρa;obtain⟨nx,Oo⟩:=Nq PC.length;rw[Oo] at G0 WE SJ ⊢;change Hid _ at NJ KC;have Lz:=ag Lz;have SG:=ag SG;change Hid _ at hd LI WK WE Oo;obtain⟨n,hn⟩:=Nq ((K1 p).length);have lC:=(am Tryz.underlying214 Θ UA p (z:=.map none) ρm).2;obtain⟨vv,hvv⟩:=Nq ((lk p LK1).getD (.map none));rw[hvv] at lC;have ll:∀ty,(Builtin.len_ #[213] ty #[vv]).run Ψ wr=.ok (ι ε n) wr:=by
   intro ty;rcases Wu p with ⟨e1,e2⟩|⟨b,e1,e2,e3⟩
   ·rw[<- hvv,e1,<- hn,e2];exact kU (P:=Ψ) (T:=213) (K:=3) (E:=3) Tryz.underlying213 wr ty
   ·rw[<- hvv,e1,<- hn];exact(aT (P:=Ψ) (T:=213) (K:=3) (E:=3) Tryz.underlying213 e2 ty).trans (by rw[mB])
  have OO:=PD.cell;have OR:=PD.frozen;have OZ:=PD.size;have NT:p=0->r=[]:=λe=>by
   cases r with
   | nil=>rfl
   | cons x r=>obtain⟨-,d2,Np,_⟩:=SG.out;rw[e,h00] at Np;cases Np
  have Rq:p≠0->∃r2,r=p::r2:=λe=>by
   cases r with
   | nil=>exact ax SG.out e
   | cons x r=>obtain⟨rfl,_⟩:=SG.out;exact⟨r,rfl⟩
  change Hid _ at NT Rq;have nCw:C<wr:=ρa;by_cases h0:n=0
  ·subst h0;have hKp:K1 p=[]:=List.length_eq_zero_iff.1 hn;have UV:=@run_makeMap Ψ;obtain⟨v1,hput1,Vj,kx,zx⟩:=bv Tryz.underlying214 Θ (UA.alloc (.map #[] 0)) p (.map (some wr));have M1:aB v1 wr []:=(aB.made wr).ko kx ρj;have lC1:=(am Tryz.underlying214 Θ Vj p (z:=.map none) ρm).2;rw[fq,qP rfl] at lC1;simp only[Option.getD_some] at lC1;obtain⟨v2,Za,M2,Va,zx2⟩:=bv Tryz.underlying213 Θ M1 i Ko;have sz1:v1.heap.size=wr+1:=by rw[zx];simp
   have sz2:v2.heap.size=wr+1:=by rw[zx2,sz1]
   have kk:KO (λx=>x=C) wr v2:=by refine⟨Va.os.trans kx.os,Va.tape.trans kx.tape,Va.output.trans kx.output,by omega,λx hx hC=>?_⟩;rw[Va.block x ρa (by show ¬x=_;omega),kx.block x ρF hC,(MapKept.heap_alloc wr _).2 x hx]
   have kk1:KO (λx=>x=C) wr v1:=by refine⟨kx.os,kx.tape,kx.output,by omega,λx hx hC=>?_⟩;rw[kx.block x ρF hC,(MapKept.heap_alloc wr _).2 x hx]
   have Mm:=PD.ko kk1 nBC;have Rr:=Mm.r;have LJ:=PD.ko kk nBC;have QF:=Sg.ko kk nAC;have Td:=Wv.ko kk (Ne.symm nCO);have Sj:=Vj.ko Va (by show ¬C=_;omega);have G2:=ae.ko G0 kk σG;have J':=Kj.trans kk (by intro x hx h;subst h;show TG.act _;rw[oC0];trivial);have WZ:bu (λx=>if x=wr.heap.size then .aki p else o1 x) v2 (dN p (.map (some wr)) LK1) (ay K1 p (dM i (K1 p))):=bu.set Wu (N:=wr.heap.size) (λb q l hq hm ho=>⟨hm.ko kk (by intro e;subst e;rw[oC] at ho;cases ho),by show (if b=wr then _ else _)=_;rw[qI (by have:=hm.size;omega)];exact ho⟩) (λq=>by rw[fq];split<;>rfl) (by rw[hKp,show mA (dM i [])=dN i Ko [] from rfl];exact M2) ρp;have YX:∀x,x<w.heap.size->(λx=>if x=wr.heap.size then TG.aki p else o1 x) x=o x:=λx hx=>by show (if x=wr.heap.size then _ else _)=_;rw[qI ρa];exact PM x hx
   clear kx Va zx zx2 kk G0 PD Sg Wv UA Wu Vj M1 hvv hn;by_cases e0:p=0
   ·have Ua:(p==0)=true:=by simpa using e0
    replace e0:=ag e0;go_wp2_with fail;have hr:=NT.out e0.out;subst hr;have NV:(bo S.K xs).1=a++[i]:=by rw[NJ.out];rfl
    have VJ:(bo S.K xs).2=ay K1 p (dM i (K1 p)):=by rw[NJ.out,e0.out];rfl
    have PB:=(YX B Vg).trans oB0;have oA2:=(YX A zA0).trans oA0;have oO2:=(YX O Zy).trans oO0;have oC2:=(YX C Yl).trans oC0;go_ret2;refine⟨_,rfl,?_,(λx=>if x=wr.heap.size then TG.aki p else o1 x),⟨LJ.below ρE LJ.size,⟨LB,QF.below ρE,hA.out⟩,⟨_,Td.below ρE,λj=>by rw[fq];show _=(if j=leaf then true else S.on j);split<;>simp[hO.out]⟩,⟨_,Sj.below ρE,by rw[VJ];exact WZ.below ρE⟩,PB,oA2,oO2,oC2⟩,YX,J'.step0 ρE⟩;(first|rw[NV,LI.out]|rw[LI.out]);exact ae.below G2 ρE
   ·have Ua:(p==0)=false:=by simpa using e0
    obtain⟨r2,OG⟩:=Rq.out e0;subst OG;have zk:=J'.size;go_upto_region 17 with (fail);refine Zw (θ7 J' LJ QF Td Sj WZ G2) ?_;rintro v3 ⟨Kk,Lx,Sh,Vp,Vk,W9,G3⟩;replace OO:=Lx.cell;replace OR:=Lx.frozen;replace OZ:=Lx.size;have zk:=Kk.size;have LZ:PC.length<=1000000:=by rw[Oo.out];omega
    go_wp2_with (refine au Tryz.underlying45 bG rfl (λ_=>rfl) ρC ρf ρf rfl (.tmp 77) (.tmp 79) rfl w (ζ oa nx oc) PC p v3 #[ι ε p] rfl ρs ρs (G3.below ρE) ρB ρa ρF ?_;intro o4 v4 G4 kx;replace kx:=kx.of_alloc;have Mt:=Lx.ko kx (λh=>ae.ne_blk G3 Lx ρf h);have A'4:=Sh.ko kx (ae.notown G3 zA0);have O'4:=Vp.ko kx (ae.notown G3 Zy);have C'4:=Vk.ko kx (ae.notown G3 Yl);have KF4:=W9.ko kx (λx l p hm _=>ae.ne_map G3 hm);have Km:KO (λx=>(o x).act) w v4:=Kk.trans kx (by intro y hy h;exact ax h (ae.notown G3 hy));have Vh:=Km.size;replace OO:=Mt.cell;replace OR:=Mt.frozen;replace OZ:=Mt.size);go_roundw;case rel=>exact⟨a++[i],r2,p,_,_,_,rfl,by rw[LI.out];exact ae.below G4 ρE,SG.out,by have:=KC.out;simp at this ⊢;omega,by rw[NJ.out,bo,qP hKp];simp,Mt.below ρE Mt.size,A'4.below ρE,O'4.below ρE,C'4.below ρE,KF4.below ρE,YX,Km.step0 ρE⟩
    case measure=>exact ηo
  ·rcases Wu p with ⟨e1,e2⟩|⟨b,e1,e2,e3⟩
   ·exact ax (by rw[<- hn,e2];rfl) h0
   ·rw[hvv] at e1;subst e1;have hKp:K1 p≠[]:=λh=>h0 (by rw[<- hn,h];rfl);obtain⟨v2,Za,M2,kk,zx2⟩:=bv Tryz.underlying213 Θ e2 i Ko;have nBb:B≠b:=aC PD e2;have nAb:A≠b:=by intro h;rw[<- h,PM A zA0,oA0] at e3;cases e3
    have nOb:O≠b:=by intro h;rw[<- h,oO] at e3;cases e3
    have nCb:C≠b:=by intro h;rw[<- h,oC] at e3;cases e3
    have LJ:=PD.ko kk nBb;have QF:=Sg.ko kk nAb;have Td:=Wv.ko kk nOb;have Sj:=UA.ko kk nCb;have G2:=ae.ko G0 kk (λx _ hx e=>by (try dsimp only at e);subst e;exact ae.ne_map G0 e2 hx);have J':=Kj.trans kk (by intro x hx h;subst h;show TG.act _;rw[<- PM x hx,e3];trivial);have WZ:bu o1 v2 LK1 (ay K1 p (dM i (K1 p))):=bu.set Wu (N:=b) τ7 (λq=>by by_cases h:q=p;(· rw[qP h,h,hvv]);(· rw[qI h])) (by rw[<- rH];exact M2) e3;have hd:=dt ((0:Int)<(n:Int));have hd0:((n:Int)==0)=false:=ρ6;clear kk zx2 G0 PD Sg Wv UA Wu e2 hn;go_wp2_with fail;have NV:(bo S.K xs).1=a++[i]/\(bo S.K xs).2=ay K1 p (dM i (K1 p)):=by
     rw[NJ.out];by_cases e0:p=0
     ·rw[NT.out e0,e0];exact⟨rfl,rfl⟩
     ·obtain⟨r2,OG⟩:=Rq.out e0;rw[OG,bo,qI hKp];exact⟨rfl,rfl⟩
    obtain⟨NV,VJ⟩:=NV;have PB:=(PM B Vg).trans oB0;have oA2:=(PM A zA0).trans oA0;have oO2:=(PM O Zy).trans oO0;have oC2:=(PM C Yl).trans oC0;have YX:=PM;go_ret2;refine⟨_,rfl,?_,o1,⟨LJ.below ρE LJ.size,⟨LB,QF.below ρE,hA.out⟩,⟨_,Td.below ρE,λj=>by rw[fq];show _=(if j=leaf then true else S.on j);split<;>simp[hO.out]⟩,⟨_,Sj.below ρE,by rw[VJ];exact WZ.below ρE⟩,PB,oA2,oO2,oC2⟩,YX,J'.step0 ρE⟩;(first|rw[NV,LI.out]|rw[LI.out]);exact ae.below G2 ρE
theorem vY (S:AS)(B A O C:Nat)(o:aU)(L:List CD)(leaf:Int)(w:ϖ)(H:de o w B A O C L S)(hc:eB L leaf=none):Calls Ψ 222 #[B,ι ε leaf] w λe w'=>e=ϰ (χ #[Kn,ι ε 6])/\w=w':=by
 obtain⟨B',⟨LB,A',hA⟩,⟨LO,O',hO⟩,⟨LK,C',hK⟩,oB,oA,oO,oC⟩:=H;have Rr:=B'.r;have lA:=(am Tryz.underlying212 Θ A' leaf (z:=φ #[Kz,Kz]) ρm).2;rw[hA leaf,hc] at lA;simp only[Option.getD_none] at lA;clear hA hO hK B' A' O' C' oA oB oO oC hc;have pf0:=λa b v=>(wU a b v).1;have pf1:=λa b v=>(wU a b v).2;go_in;go_wp2;go_ret2;exact⟨rfl,rfl⟩
theorem DM (S:AS)(B A O C:Nat)(o:aU)(L:List CD)(leaf:Int)(xs:List Int)(c:CD)(w:ϖ)(H:de o w B A O C L S)(hc:fc L leaf=some c)(hs:eZ c=true)(hl:c.lf=true)(hi:S.is leaf=true)(hp:cj L leaf xs)(h00:fc L 0=none)(ML:xs≠[])(hx:xs.length<=1000)(Ob:xs.Nodup)(hK:∀y ∈ 0::xs.tail,S.K y≠[]):Calls Ψ 222 #[B,ι ε leaf] w λe w'=>∃v,e=ϰ (χ #[v,Kz])/\HI w' w v (aS S.K xs).1/\de o w' B A O C L ⟨ay S.on leaf false,(aS S.K xs).2⟩/\KO (λx=>(o x).act) w w':=by
 have H0:=H;obtain⟨B',⟨LB,A',hA⟩,⟨LO,O',hO⟩,⟨LK,C',KF⟩,oB,oA,oO,oC⟩:=H;have nBO:B≠O:=aC B' O';have nBC:B≠C:=aC B' C';have nAO:A≠O:=by intro h;rw[h,oO] at oA;cases oA
 have nAC:A≠C:=by intro h;rw[h,oC] at oA;cases oA
 have nCO:C≠O:=by intro h;rw[h,oO] at oC;cases oC
 have Vg:=B'.size;have zA0:=A'.size;have Zy:=O'.size;have Yl:=C'.size;obtain⟨q,hq⟩:=Nq c.par;have lA:∀{v:ϖ},aB v A LB->(Instr.lookup 212 (.map (some A)) (ι ε leaf) false).run Ψ v=.ok (φ #[ι ε q,Ko]) v:=fun {v} h=>ηe
 have lA2:∀(v:ϖ) (i:Int) (d:CD),aB v A LB->fc L i=some d->eZ d=true->∃y,(Instr.lookup 212 (.map (some A)) (ι ε i) false).run Ψ v=.ok (φ #[ι ε d.par,ι ε y]) v:=λv i d h hd hsd=>ηf
 have hA:=ag hA;have hO:=ag hO;have lA2:=ag lA2;have pf0:=λa b v=>(wU a b v).1;have pf1:=λa b v=>(wU a b v).2;have lA0:=lA A';have OO:=B'.cell;have OR:=B'.frozen;have OZ:=B'.size;replace hi:=ag hi;obtain⟨v3,Ld,Vp,kx,zx⟩:=gW Tryz.underlying213 Θ O' leaf;go_in;go_wp2_with (go_at_call 124;refine(xQ S B A O C o L leaf w H0).mono ?_;rintro e v ⟨rfl,rfl⟩;rw[hi.out]);have Kj:KO (λ_=>False) w w:=KO.refl _ _;have Kk:KO (λx=>(o x).act) w v3:=kx.mono (by intro x hx h;(try dsimp only at h);subst h;show TG.act _;rw[oO];trivial);have Lx:=B'.ko kx nBO;have Sh:=A'.ko kx nAO;have Vk:=C'.ko kx nCO;have W9:=KF.ko kx (λx l p _ e h=>by subst h;rw[oO] at e;cases e);clear kx Kj;go_loopw [6,7] (λt u wr=>∃(a r:List Int) (i:Int) (K1:Int->List Int),u=ι ε i/\HI wr w t (a++[i])/\cj L i (i::r)/\xs=a++i::r/\(∀y ∈ 0::r,K1 y=S.K y)/\aS S.K xs=(a++(aS K1 (i::r)).1,(aS K1 (i::r)).2)/\ah wr B #[.map (some A),.map (some O),.map (some C)] 216/\aB wr A LB/\aB wr O (dL leaf LO)/\aB wr C LK/\bu o wr LK K1/\KO (λx=>(o x).act) w wr) (λt _ _=>xs.length - lenOf t);case atStart=>
  obtain⟨r,rfl⟩:∃r,xs=leaf::r:=by
   cases xs with
   | nil=>exact ax rfl ML
   | cons x r=>exact⟨r,by rw[show x=leaf from hp.1]⟩
  exact⟨[],r,leaf,S.K,rfl,ae.one ρB rfl (by first|exact Kk.size|omega) rfl,hp,rfl,λ_ _=>rfl,rfl,Lx.below ρE Lx.size,Sh.below ρE,Vp.below ρE,Vk.below ρE,W9.below ρE,Kk.step0 ρE⟩
 case round=>
  clear OO OR OZ lA0 Ld Lx Sh Vp Vk W9 Kk;obtain⟨a,r,i,K1,rfl,G0,Lz,Kq,hag,NJ,PD,Sg,Wv,UA,Wu,Kj⟩:=hrel;obtain⟨-,d,hd,hsd,SG⟩:=id Lz;have zw:=Kj.size;obtain⟨y,lA0⟩:=lA2.out _ _ _ Sg hd hsd;obtain⟨p,WK⟩:=Nq d.par;rw[WK] at SG lA0;have KC:a.length+r.length+1=xs.length:=by rw[Kq];simp;omega
  have Lu:a.length<=1000:=ρa;have NT:p=0->r=[]:=λe=>by
   cases r with
   | nil=>rfl
   | cons x r=>obtain⟨-,d2,Np,_⟩:=SG;rw[e,h00] at Np;cases Np
  have Rq:p≠0->∃r2,r=p::r2:=λe=>by
   cases r with
   | nil=>exact ax SG e
   | cons x r=>obtain⟨rfl,_⟩:=SG;exact⟨r,rfl⟩
  have hpm:p ∈ 0::r:=by
   by_cases e:p=0
   ·rw[e];simp
   ·obtain⟨r2,e2⟩:=Rq e;rw[e2];simp
  have hKp:K1 p≠[]:=by rw[hag p hpm];exact hK p (by
   rcases qC.1 hpm with e|e
   ·rw[e];simp
   ·refine qb _ ?_;rw[Kq];cases a with
    | nil=>exact e
    | cons b a=>simp[e])
  obtain⟨oa,oc,rfl⟩:=G0.slice;have WE:(a++[i]).length=a.length+1:=ρp;obtain⟨PC,LI⟩:=Nq (a++[i]);rw[LI] at G0 WE ⊢;have SJ:PC.length<=1001:=ρa;obtain⟨nx,Oo⟩:=Nq PC.length;rw[Oo] at G0 WE SJ ⊢;change Hid _ at NJ KC;have Lz:=ag Lz;have SG:=ag SG;change Hid _ at hd LI WK WE Oo Kq hag NT Rq hpm;have lC:=(am Tryz.underlying214 Θ UA p (z:=.map none) ρm).2;rcases Wu p with ⟨e1,e2⟩|⟨b,e1,e2,e3⟩
  ·exact ax e2 hKp
  rw[e1] at lC;obtain⟨v2,Za,M2,kk,zx2⟩:=gW Tryz.underlying213 Θ e2 i;rw[yJ] at M2;have nBb:B≠b:=aC PD e2;have nAb:A≠b:=by intro h;rw[<- h,oA] at e3;cases e3
  have nOb:O≠b:=by intro h;rw[<- h,oO] at e3;cases e3
  have nCb:C≠b:=by intro h;rw[<- h,oC] at e3;cases e3
  have OO:=PD.cell;have OR:=PD.frozen;have OZ:=PD.size;have LJ:=PD.ko kk nBb;have QF:=Sg.ko kk nAb;have Td:=Wv.ko kk nOb;have Sj:=UA.ko kk nCb;have G2:=ae.ko G0 kk (λx _ hx e=>by (try dsimp only at e);subst e;exact ae.ne_map G0 e2 hx);have J':=Kj.trans kk (by intro x hx h;subst h;show TG.act _;rw[e3];trivial);have WZ:bu o v2 LK (ay K1 p (dE i (K1 p))):=bu.set Wu (N:=b) τ7 (λq=>by by_cases h:q=p;(· rw[qP h,h,e1]);(· rw[qI h])) M2 e3;have lC2:=(am Tryz.underlying214 Θ Sj p (z:=.map none) ρm).2;rw[e1] at lC2;have Rr:=LJ.r;obtain⟨n,hn⟩:=Nq ((dE i (K1 p)).length);have ll:∀ty,(Builtin.len_ #[213] ty #[.map (some b)]).run Ψ v2=.ok (ι ε n) v2:=λty=>(aT (P:=Ψ) (T:=213) (K:=3) (E:=3) Tryz.underlying213 M2 ty).trans (by rw[mB,<- hn];rfl);replace hn:=ag hn;clear kk zx2 G0 PD Sg Wv UA Wu e2 M2 Kj;have fin:(n≠0\/p=0)->(aS S.K xs).1=a++[i]/\(aS S.K xs).2=ay K1 p (dE i (K1 p)):=λh=>by
   rw[NJ.out];by_cases e0:p=0
   ·rw[NT.out e0,e0];exact⟨rfl,rfl⟩
   ·obtain⟨r2,OG⟩:=Rq.out e0;rw[OG,aS,qI (λh2=>by have:=hn.out;rw[h2] at this;simp at this;omega)];exact⟨rfl,rfl⟩
  replace fin:=ag fin;by_cases h0:n=0
  rotate_left
  ·have hd:=dt ((0:Int)<(n:Int));go_wp2_with fail;obtain⟨NV,VJ⟩:=fin.out (.inl h0);exact ξD
  subst h0;by_cases e0:p=0
  ·have Ua:(p==0)=true:=by simpa using e0
   obtain⟨NV,VJ⟩:=fin.out (.inr e0);change Hid _ at NV VJ e0;go_wp2_with fail;replace NV:=NV.out;replace VJ:=VJ.out;exact ξD
  have Ua:(p==0)=false:=by simpa using e0
  obtain⟨r2,OG⟩:=Rq.out e0;subst OG;have KI:∀y ∈ 0::r2,y≠p:=λy hy e=>by
   subst e;rcases qC.1 hy with e|e
   ·exact e0 e
   ·have:=Ob;rw[Kq.out] at this;have:=(List.nodup_append.1 this).2.1;rw[qD,qD] at this;exact this.2.1 e
  replace KI:=ag KI;have zk:=J'.size;go_upto_region 12 with (fail);refine Zw (θ7 J' LJ QF Td Sj WZ G2) ?_;rintro v3 ⟨Kk,Lx,Sh,Vp,Vk,W9,G3⟩;replace OO:=Lx.cell;replace OR:=Lx.frozen;replace OZ:=Lx.size;have zk:=Kk.size;have LZ:PC.length<=1000000:=by rw[Oo.out];omega
  go_wp2_with (refine au Tryz.underlying45 bG rfl (λ_=>rfl) ρC ρf ρf rfl (.tmp 62) (.tmp 64) rfl w (ζ oa nx oc) PC p v3 #[ι ε p] rfl ρs ρs (G3.below ρE) ρB ρa ρF ?_;intro o4 v4 G4 kx;replace kx:=kx.of_alloc;have Mt:=Lx.ko kx (λh=>ae.ne_blk G3 Lx ρf h);have A'4:=Sh.ko kx (ae.notown G3 zA0);have O'4:=Vp.ko kx (ae.notown G3 Zy);have C'4:=Vk.ko kx (ae.notown G3 Yl);have KF4:=W9.ko kx (λx l p hm _=>ae.ne_map G3 hm);have Km:KO (λx=>(o x).act) w v4:=Kk.trans kx (by intro y hy h;exact ax h (ae.notown G3 hy));have Vh:=Km.size;replace OO:=Mt.cell;replace OR:=Mt.frozen;replace OZ:=Mt.size);go_roundw;case rel=>exact⟨a++[i],r2,p,_,rfl,by rw[LI.out];exact ae.below G4 ρE,SG.out,by rw[Kq.out];simp,λy hy=>by rw[ay,qI (KI.out y hy)];exact hag.out y (by simp at hy ⊢;rcases hy with h|h<;>simp[h]),by rw[NJ.out,aS,qP (List.length_eq_zero_iff.1 hn.out)];simp,Mt.below ρE Mt.size,A'4.below ρE,O'4.below ρE,C'4.below ρE,KF4.below ρE,Km.step0 ρE⟩
  case measure=>exact ηo
structure K4 where
 (a b c d:Int)
abbrev kv (k:K4):ϗ:=φ #[ι ω k.a,ι ω k.b,ι ω k.c,ι ω k.d]
structure FW where
 (k:K4)
 (p:Int)
abbrev fv (f:FW):ϗ:=ι ε f.p
theorem Dg {x y:K4}:x=y↔x.a=y.a/\x.b=y.b/\x.c=y.c/\x.d=y.d:=by cases x;cases y;simp
instance:DecidableEq K4:=λx y=>decidable_of_iff _ Dg.symm
theorem Ay (k:Nat)(w:ϖ)(x y:Int):(Op.equalIn (k+1) 46 (ι ω x) (ι ω y)).run Ψ w=.ok (x==y) w:=by simp[Op.equalIn,Tryz.underlying46,go_sem]
theorem iF (xs:Array ϗ)(off:Nat)(v:ϗ)(w:ϖ)(h:xs[off]?=some v):(part 46 xs off).run Ψ w=.ok v w:=
 run_part_plain (P:=Ψ) w ρi h
theorem yg (d:Nat)(k j:K4)(w:ϖ):(Op.equalIn (d+2) 48 (kv k) (kv j)).run Ψ w=.ok (decide (k=j)) w:=by
 have hc:Ψ.cellsOf 46=1:=ρi;obtain⟨i16,hi16⟩:=info_of_underlying Tryz.underlying46;rw[run_equalIn_array (P:=Ψ) w (d+1) _ _ Tryz.underlying48 hi16,hc];have p0:∀(x0 x1 x2 x3:Int) (v:ϖ),(part 46 #[ι ω x0,ι ω x1,ι ω x2,ι ω x3] 0).run Ψ v=.ok (ι ω x0) v:=λ_ _ _ _ v=>iF _ _ _ v rfl;have p1:∀(x0 x1 x2 x3:Int) (v:ϖ),(part 46 #[ι ω x0,ι ω x1,ι ω x2,ι ω x3] 1).run Ψ v=.ok (ι ω x1) v:=λ_ _ _ _ v=>iF _ _ _ v rfl;have p2:∀(x0 x1 x2 x3:Int) (v:ϖ),(part 46 #[ι ω x0,ι ω x1,ι ω x2,ι ω x3] 2).run Ψ v=.ok (ι ω x2) v:=λ_ _ _ _ v=>iF _ _ _ v rfl;have p3:∀(x0 x1 x2 x3:Int) (v:ϖ),(part 46 #[ι ω x0,ι ω x1,ι ω x2,ι ω x3] 3).run Ψ v=.ok (ι ω x3) v:=λ_ _ _ _ v=>iF _ _ _ v rfl;have e:=λv x y=>Ay d v x y;by_cases ha:k.a=j.a<;>by_cases hb:k.b=j.b<;>by_cases RQ:k.c=j.c<;>by_cases hd:k.d=j.d<;>
  simp[Op.eqItems,List.range,List.range.loop,Sem.run_bind,Result.andThen,p0,p1,p2,p3,e,Dg,ha,hb,RQ,hd]
theorem JL (k j:K4)(w:ϖ):(Op.equal 48 (kv k) (kv j)).run Ψ w=.ok (decide (k=j)) w:=by show (Op.equalIn 10000 _ _ _).run Ψ w=_;exact yg 9998 k j w
theorem JE (em:Bool)(k:K4)(w:ϖ):(Instr.checkKey em 10000 48 (kv k)).run Ψ w=.ok () w:=by
 have hs:∀v,(sizeOf 46).run Ψ v=.ok 1 v:=λ_=>by kernel_rfl
 have p0:∀(v:ϖ),(part 46 #[ι ω k.a,ι ω k.b,ι ω k.c,ι ω k.d] 0).run Ψ v=.ok (ι ω k.a) v:=λv=>iF _ _ _ v rfl;have p1:∀(v:ϖ),(part 46 #[ι ω k.a,ι ω k.b,ι ω k.c,ι ω k.d] 1).run Ψ v=.ok (ι ω k.b) v:=λv=>iF _ _ _ v rfl;have p2:∀(v:ϖ),(part 46 #[ι ω k.a,ι ω k.b,ι ω k.c,ι ω k.d] 2).run Ψ v=.ok (ι ω k.c) v:=λv=>iF _ _ _ v rfl;have p3:∀(v:ϖ),(part 46 #[ι ω k.a,ι ω k.b,ι ω k.c,ι ω k.d] 3).run Ψ v=.ok (ι ω k.d) v:=λv=>iF _ _ _ v rfl;have hk:∀(x:Int) (v:ϖ),(Instr.checkKey em 9999 46 (ι ω x)).run Ψ v=.ok () v:=λx v=>MapKept.run_checkKey (P:=Ψ) (w:=v) (k:=ι ω x) Tryz.underlying46 rfl em 9998;show (Instr.checkKey em (9999+1) _ _).run Ψ w=_;unfold Instr.checkKey;simp only[Sem.run_bind,run_underlying Tryz.underlying48,Result.andThen];simp only[Std.Legacy.Range.forIn_eq_forIn_range',Std.Legacy.Range.size,Nat.sub_zero,Nat.add_one_sub_one,Nat.div_one];simp[List.range',List.forIn_cons,Sem.run_bind,Result.andThen,hs,p0,p1,p2,p3,hk]
def bM:List FW->K4->Nat->Option (Nat × FW)
 | [],_,_=>none
 | f::r,k,i=>if k=f.k then some (i,f) else bM r k (i+1)
def mI (es:List MapEntry)(L:List FW):Prop:=es.map (λe=>(e.key,e.val))=L.map (λf=>(kv f.k,fv f))
theorem mG (k:K4):∀(L:List FW)(es:List MapEntry)(i:Nat)(w:ϖ),mI es L->(Instr.findAsking 48 (kv k) es i).run Ψ w=.ok ((bM L k i).map λp=>(p.1,fv p.2)) w
 | [],es,i,w,h=>by
  have:es=[]:=by unfold mI at h;simpa using h
  subst this;simp[Instr.findAsking,bM]
 | f::L,es,i,w,h=>by
  unfold mI at h;cases es with
  | nil=>simp at h
  | cons e es=>
   simp only[eJ,List.cons.injEq,Prod.mk.injEq] at h;obtain⟨⟨h1,h2⟩,h3⟩:=h;have ih:=mG k L es (i+1) w h3;unfold Instr.findAsking bM;rw[h1];simp only[Sem.run_bind,JL,Result.andThen];by_cases he:k=f.k
   ·simp[he,h2]
   ·simp[he,ih]
theorem sq (k:K4)(L:List FW)(es:List MapEntry)(w:ϖ)(h:mI es L):(Instr.findKey 48 (kv k) es).run Ψ w=.ok ((bM L k 0).map λp=>(p.1,fv p.2)) w:=by
 have ha:=mG k L es 0 w h;unfold Instr.findKey;simp only[Sem.run_bind,run_underlying Tryz.underlying48,Result.andThen];cases es with
 | nil=>
  have:L=[]:=by unfold mI at h;cases L<;>simp_all
  subst this;simp[Instr.findNow,bM]
 | cons e es=>
  have:Instr.findNow (.array 4 46) (kv k) (e::es) 0=none:=by simp[Instr.findNow,Instr.sameNow]
  rw[this];exact ha
def bz (w:ϖ)(M:Nat)(L:List FW):Prop:=∃(es:Array MapEntry)(KE:Nat),w.heap[M]?=some (.map es KE)/\mI es.toList L
theorem sw {w:ϖ} {M:Nat} {L:List FW} (h:bz w M L)(k:K4):(Instr.lookup 162 (.map (some M)) (kv k) true).run Ψ w=.ok (χ #[match bM L k 0 with|some p=>fv p.2|none=>fv ⟨⟨0,0,0,0⟩,0⟩,β (bM L k 0).isSome]) w:=by
 obtain⟨es,KE,hb,hs⟩:=h;have hz:∀v,(zeroValue 3).run Ψ v=.ok (fv ⟨⟨0,0,0,0⟩,0⟩) v:=λ_=>by kernel_rfl
 unfold Instr.lookup;simp only[Sem.run_bind,run_underlying Tryz.underlying162,Result.andThen,MapKept.run_getObj_map hb,Sem.run_pure,JE,sq k L es.toList w hs];cases hf:bM L k 0 with
 | none=>simp[hz,Result.andThen]
 | some p=>simp[Result.andThen]
theorem Ab {w:ϖ} {M:Nat} {L:List FW} (h:bz w M L)(k:K4)(f:FW)(hk:f.k=k)(hn:bM L k 0=none):∃w',(Instr.mapUpdate 162 (.map (some M)) (kv k) (fv f)).run Ψ w=.ok () w'/\bz w' M (L++[f])/\(∀b,b≠M->w'.heap[b]?=w.heap[b]?)/\w'.heap.size=w/\Below M w w':=by
 obtain⟨es,KE,hb,hs⟩:=h;refine⟨{w with heap:=w.heap.setIfInBounds M (.map (es.push {key:=kv k,val:=fv f,born:=KE}) (KE+1))},by simp[Instr.mapUpdate,run_underlying Tryz.underlying162,MapKept.run_getObj_map hb,JE,sq k L es.toList w hs,hn,MapKept.run_setObj_map _ hb,Result.andThen],?_,?_,?_,?_⟩
 ·refine⟨_,_,(MapKept.heap_set hb).1,?_⟩;unfold mI at*;simp[hs,hk]
 ·exact(MapKept.heap_set hb).2
 ·simp
 ·exact⟨rfl,rfl,rfl,by simp,λb hbM=>(MapKept.heap_set hb).2 b ρa⟩
end Go.Proofs.YtfdlemkplejdnaaGreat
