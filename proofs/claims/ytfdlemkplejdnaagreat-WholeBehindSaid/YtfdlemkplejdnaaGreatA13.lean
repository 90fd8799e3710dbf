/- WholeBehind, part 13. Conditions: none. -/
import Derived.Test.YtfdlemkplejdnaaGreatA6
import Derived.Test.YtfdlemkplejdnaaGreatA8
import Derived.Test.YtfdlemkplejdnaaGreatA9
import Derived.Sort.OwnSortedInts
import Derived.Shelf.Slices.In.SortNone
import Derived.Deep.OwnRows
import Derived.Lib.AppendStr
import Derived.ChangeKeysEq
namespace Go.Proofs.YtfdlemkplejdnaaGreat
open Go.RowKit Go.Sort
open Value renaming int->ι,pointer->ψ,slice->ζ,tuple->χ,agg->φ,map->μ,bool->β
open IntKind renaming u64->υ,i64->ε,u16->ω
open Ending renaming returned->ϰ
open Go.Proofs.Tryz renaming prog->Ψ,underlying3->Θ,underlying147->Δ,underlying152->Γ,underlying202->Φ,underlying39->Ξ,underlying207->Ω
open Go renaming World->ϖ,Value->ϗ
set_option linter.unusedVariables false
set_option linter.unusedSimpArgs false
set_option maxHeartbeats 8000000
set_option maxRecDepth 100000
def ae {α:Type} (e:TypeId)(n:Nat)(enc:α->List ϗ)(w:ϖ)(base:Nat)(v:ϗ)(l:List α):Prop:=w.ownsRow base e n v l.length (l.flatMap enc)
section
variable {α:Type} {e:TypeId} {n:Nat} {enc:α->List ϗ}
theorem ae.nil (w:ϖ)(base:Nat):ae e n enc w base Kn []:=⟨by simp,.inl ⟨rfl,rfl⟩⟩
theorem ae.below {w w':ϖ} {base:Nat} {v:ϗ} {l:List α} (h:ae e n enc w base v l)(hb:Below w w w'):ae e n enc w' base v l:=by
 obtain⟨h1,h2⟩:=h;refine⟨h1,?_⟩;rcases h2 with h2|⟨g,IM,Lp,e,hg,hh,r⟩
 ·exact .inl h2
 ·exact .inr ⟨g,IM,Lp,e,hg,(hb.block g (Array.getElem?_eq_some_iff.1 hh).1).trans hh,r⟩
instance {α:Type} {e n} {enc:α->List ϗ} {w base v} {l:List α}:Mv (ae e n enc w base v l) w (λv'=>ae e n enc v' base v l):=⟨λk h=>ae.below h k⟩
theorem ae.own_ge {w:ϖ} {base:Nat} {v:ϗ} {l:List α} (h:ae e n enc w base v l):∀k,v.ownBlock=some k->base<=k/\k<w.heap.size:=by
 intro k hk;rcases h.2 with ⟨e,_⟩|⟨g,IM,Lp,e,hg,hh,r⟩
 ·rw[e] at hk;cases hk
 ·rw[e] at hk;cases hk;exact⟨hg,(Array.getElem?_eq_some_iff.1 hh).1⟩
theorem ae.slice {w:ϖ} {base:Nat} {v:ϗ} {l:List α} (h:ae e n enc w base v l):∃a IM,v=ζ a l.length IM:=by
 rcases h.2 with ⟨e,h0⟩|⟨g,IM,Lp,e,_⟩
 ·exact⟨none,0,by rw[e,h0]⟩
 ·exact⟨_,IM,e⟩
theorem ae.ne_blk {w:ϖ} {base:Nat} {v:ϗ} {l:List α} {B:Nat} {cs:Array ϗ} {t:TypeId} (h:ae e n enc w base v l)(hB:ah w B cs t)(ht:t≠e):some B≠v.ownBlock:=by
 intro q;rcases h.2 with ⟨hv,_⟩|⟨g,IM,Lp,hv,_,hh,_⟩
 ·rw[hv] at q;cases q
 ·rw[hv] at q;cases q
  unfold ah at hB;rw[hh] at hB;cases hB
  exact ht rfl
theorem ae.base_le {w:ϖ} {b b':Nat} {v:ϗ} {l:List α} (h:ae e n enc w b v l)(hb:b'<=b):ae e n enc w b' v l:=by
 refine⟨h.1,?_⟩;rcases h.2 with h2|⟨g,IM,Lp,e,hg,r⟩
 ·exact .inl h2
 ·exact .inr ⟨g,IM,Lp,e,by omega,r⟩
def yL (n:Nat)(enc:α->List ϗ)(w:ϖ)(b II:Nat)(L:List α):Prop:=∀i x,L[i]?=some x->∀j u,(enc x)[j]?=some u->w.cell? ⟨b,II+i*n+j,none⟩=some u
theorem yL.below {w w':ϖ} {b II K:Nat} {L:List α} (h:yL n enc w b II L)(hb:Below K w w')(hB:b<K):yL n enc w' b II L:=λi x hi j u hj=>
 (hb.cell (p:=⟨b,II+i*n+j,none⟩) hB).trans (h i x hi j u hj)
theorem f7 (hn:∀x,(enc x).length=n):∀(L:List α),(L.flatMap enc).length=L.length*n
 | []=>by simp
 | x::r=>by rw[List.flatMap_cons,ZL,hn,f7 hn r,mM,Nat.add_mul];omega
theorem lu (hn:∀x,(enc x).length=n):∀(L:List α)(i:Nat)(x:α),L[i]?=some x->∀j u,(enc x)[j]?=some u->(L.flatMap enc)[i*n+j]?=some u
 | [],i,x,h=>by simp at h
 | y::r,0,x,h=>by intro j u hj;simp at h;subst h;have XY:=(List.getElem?_eq_some_iff.1 hj).1;rw[List.flatMap_cons,Nat.zero_mul,Nat.zero_add,List.getElem?_append_left XY];exact hj
 | y::r,i+1,x,h=>by intro j u hj;have ih:=lu hn r i x σL j u hj;rw[List.flatMap_cons,List.getElem?_append_right (by rw[hn,Nat.add_mul];omega),hn,show (i+1)*n+j - n=i*n+j by rw[Nat.add_mul];omega];exact ih
theorem ae.at {w:ϖ} {base:Nat} {v:ϗ} {L:List α} (h:ae e n enc w base v L)(hn:∀x,(enc x).length=n):∃a IM,∃g:Nat,v=ζ a L.length IM/\L.length<=IM/\(L≠[]->a=g)/\(L≠[]->g<w.heap.size)/\yL n enc w g 0 L:=by
 obtain⟨h1,h2⟩:=h;rcases h2 with ⟨rfl,h0⟩|⟨g,IM,Lp,rfl,hg,hh,hc,hm,hs,ht⟩
 ·have:L=[]:=List.length_eq_zero_iff.1 h0;subst this;exact⟨none,0,0,rfl,by simp,λh=>ax rfl h,λh=>ax rfl h,λi f hf=>by simp at hf⟩
 ·refine⟨_,IM,g,rfl,hc,λ_=>rfl,λ_=>(Array.getElem?_eq_some_iff.1 hh).1,λi x hx j u hj=>?_⟩;have hi:=(List.getElem?_eq_some_iff.1 hx).1;have XY:=(List.getElem?_eq_some_iff.1 hj).1;rw[hn] at XY;have q:=lu hn L i x hx j u hj;have ML:∀o,w.cell? ⟨g,o,none⟩=Lp[o]?:=λo=>by simp[World.cell?,hh]
  rw[ML,Nat.zero_add,<- Array.getElem?_toList];rw[<- ht] at q;have IJ:i*n+j<L.length*n:=by have:(i+1)*n<=L.length*n:=Nat.mul_le_mul_right n hi;rw[Nat.add_mul] at this;omega
  rw[List.getElem?_take_of_lt IJ] at q;exact q
end
open Go.Lib in
theorem au {α:Type} {e:TypeId} {n:Nat} {enc:α->List ϗ} {st:TypeId} {by_:Nat} {z:ϗ} (hu:Ψ.underlying st=some (.slice e))(OM:(Ψ.info? e).map (λi=>(i.zero,i.size,i.bytes))=some (some z,n,by_))(hz:z.cells.size=n)(hn:∀x,(enc x).length=n)(h1:∀x,∀u ∈ enc x,u.oneCell'=true)(Kv:0<n)(XO:by_<=1000)
  {w:ϖ} {IA:Array Oper} {rest:List Oper} {o:Oper} {a:Act} {Q:Exit->Act->ϖ->Prop} (Ld:o.guard=none) (sl x:Operand)
  (ho:o.op=.call {callee:=.builtin .append,args:=#[sl,x],argTypes:=#[st,st]})
  (base:Nat) (v:ϗ) (s:List α) (f:α) (B:Nat) (cs:Array ϗ) (KD:cs.toList=enc f) (hs:a.eval sl=v) (hx:a.eval x=ζ B 1 1) (h:ae e n enc w base v s) (hB:ah w B cs e) (Kw:s.length<=1000000) (LQ:base<=w)
  (hk:∀v' w',ae e n enc w' base v' (s++[f])->KO (λx=>some x=v.ownBlock) w w'->wpList Ψ IA Q rest (a.put o.dst v') w'):wpList Ψ IA Q (o::rest) a w:=by
 refine wpList_plain Ld λK hK=>?_;obtain⟨i,hi,q⟩:=Option.map_eq_some_iff.1 OM;simp only[Prod.mk.injEq] at q;obtain⟨v',w',hr,h2,h3,_⟩:=run_append_own_at (P:=Ψ) w base st o.type e i z n by_ hu hi q.1 q.2.1 q.2.2 hz Kv v s.length (s.flatMap enc) h ⟨B,0,none⟩ 1 1 (enc f) (by rw[hn,Nat.one_mul]) (λj u hj=>by rw[Addr.add_mid,hB.cell,Nat.zero_add,<- Array.getElem?_toList,KD];exact hj) (h1 f) σ1 (by have:(s.length+1)*by_<=(s.length+1)*1000:=Nat.mul_le_mul_left _ XO;omega) LQ
 refine δd ?_;refine hK _ _ (hk v' w' ?_ ⟨h3.os,h3.tape,h3.output,h3.size,λk hk IX=>h3.block k hk IX⟩);unfold ae;rw[ZL,List.flatMap_append];simpa using h2
theorem yL.flat {α:Type} {n:Nat} {enc:α->List ϗ} (hn:∀x,(enc x).length=n)(h0:0<n) {w:ϖ} {b II:Nat} {L:List α} (h:yL n enc w b II L):∀t u,(L.flatMap enc)[t]?=some u->w.cell? ⟨b,II+t,none⟩=some u:=by
 intro t u ht;have hl:=(List.getElem?_eq_some_iff.1 ht).1;rw[f7 hn] at hl;have hi:t / n<L.length:=Nat.div_lt_of_lt_mul (by rw[Nat.mul_comm];exact hl);have hj:t % n<n:=Nat.mod_lt _ h0;have hx:L[t / n]?=some L[t / n]:=List.getElem?_eq_getElem hi;obtain⟨x,hx⟩:∃x,L[t / n]?=some x:=⟨_,hx⟩;obtain⟨u',hu⟩:∃u',(enc x)[t % n]?=some u':=⟨_,List.getElem?_eq_getElem (by rw[hn];exact hj)⟩;have q:=lu hn L (t / n) _ hx (t % n) _ hu;have e:t / n*n+t % n=t:=by rw[Nat.mul_comm];exact Nat.div_add_mod t n
 rw[e,ht] at q;have:=h (t / n) _ hx (t % n) _ hu;rw[Nat.add_assoc,e] at this;rw[this,q]
def sf (w:ϖ)(r M:Nat):Nat:=match w.heap[r]?,w.heap[M]? with
 | some (.mapIter _ _ seen _),some (.map es _)=>(leftOf es seen).size
 | _,_=>0
theorem jL {w:ϖ} {r M:Nat} {R:List (Int × ϗ)} (h:gZ w r M R):sf w r M=R.length:=by obtain⟨es,cl,si,c0,se,h1,h2,_,_,_,_,hs⟩:=h;unfold sf;rw[h1,h2];have:=ZG List.length hs;simpa using this
theorem ae.kept {α:Type} {e:TypeId} {n:Nat} {enc:α->List ϗ} {w w':ϖ} {base r:Nat} {v:ϗ} {l:List α} (h:ae e n enc w base v l)(hr:r<base)(ho:∀b,b≠r->w'.heap[b]?=w.heap[b]?):ae e n enc w' base v l:=by
 obtain⟨h1,h2⟩:=h;refine⟨h1,?_⟩;rcases h2 with h2|⟨g,IM,Lp,e,hg,hh,q⟩
 ·exact .inl h2
 ·exact .inr ⟨g,IM,Lp,e,hg,(ho g ρa).trans hh,q⟩
theorem ae.ko {α:Type} {e:TypeId} {n:Nat} {enc:α->List ϗ} {w w':ϖ} {F:Nat->Prop} {base:Nat} {v:ϗ} {l:List α} (h:ae e n enc w base v l)(k:KO F w w')(hF:∀x,base<=x->some x=v.ownBlock->¬F x):ae e n enc w' base v l:=by
 obtain⟨h1,h2⟩:=h;refine⟨h1,?_⟩;rcases h2 with h2|⟨g,IM,Lp,e,hg,hh,q⟩
 ·exact .inl h2
 ·exact .inr ⟨g,IM,Lp,e,hg,(k.block g (Array.getElem?_eq_some_iff.1 hh).1 (hF g hg (by rw[e];rfl))).trans hh,q⟩
theorem ae.notown {α:Type} {e:TypeId} {n:Nat} {enc:α->List ϗ} {w:ϖ} {base:Nat} {v:ϗ} {l:List α} (h:ae e n enc w base v l) {x:Nat} (hx:x<base):¬some x=v.ownBlock:=λq=>by have:=(h.own_ge x q.symm).1;omega
abbrev HI (w:ϖ)(base:Nat)(v:ϗ)(L:List Int):Prop:=ae 3 1 (λx=>[Value.int .i64 x]) w base v L
theorem bD:(Ψ.info? 3).map (λi=>(i.zero,i.size,i.bytes))=some (some (ι ε 0),1,8):=by kernel_rfl
theorem HI.cell {w:ϖ} {base g n IM:Nat} {L:List Int} (h:HI w base (ζ g n IM) L)(i:Nat)(x:Int)(hi:L[i]?=some x):w.cell? ⟨g,i,none⟩=some (ι ε x)/\g<w/\base<=g:=by
 obtain⟨a,c,g',e,_,h1,h2,h3⟩:=ae.at h (λ_=>rfl);have IX:L≠[]:=by intro q;subst q;simp at hi
 have:=h1 IX;subst this;simp only[Value.slice.injEq,Option.some.injEq,Addr.mk.injEq,and_true] at e;obtain⟨rfl,_,_⟩:=e;have q:=h3 i x hi 0 _ rfl;simp only[Nat.zero_add,Nat.mul_one,Nat.add_zero] at q;exact⟨q,h2 IX,(h.own_ge g rfl).1⟩
theorem Bx {w:ϖ} {base:Nat} {v:ϗ} {L:List Int} (h:HI w base v L)(Kw:L.length<=1000000):Calls Ψ 111 #[v] w λe w'=>e=ϰ (χ #[])/\HI w' base v (L.mergeSort λx y=>decide (x<=y))/\KO (λx=>some x=v.ownBlock) w w':=by
 obtain⟨h1,⟨rfl,h0⟩|⟨g,IM,Lp,rfl,hg,hh,hc,hm,hs,ht⟩⟩:=h
 ·have:L=[]:=List.length_eq_zero_iff.1 h0;subst this;refine(Any.slices_Sort_int_none iu none 0 w).mono λe w' h=>?_;obtain⟨rfl,rfl⟩:=h;exact⟨rfl,by simpa using ae.nil _ _,KO.refl _ _⟩
 ·have hgs:g<w:=(Array.getElem?_eq_some_iff.1 hh).1;have fm:∀l:List Int,l.flatMap (λx=>[Value.int .i64 x])=l.map (Value.int .i64):=λl=>by induction l with|nil=>rfl|cons a r ih=>simp[ih]
  rw[fm,Nat.mul_one] at ht;refine(Any.slices_Sort_int iu g 0 IM L w (holds_of_blockI hh ht) hgs ρa).mono λe w' h=>?_;obtain⟨rfl,n,os,rfl⟩:=h;have hl:=List.length_mergeSort (le:=λx y:Int=>decide (x<=y)) L;have q:=ownsRow_sortedI (n:=n) (os:=os) (e:=3) (ss:=L) (ts:=L.mergeSort λx y=>decide (x<=y)) hl hg hh hc hm hs;have r:=grownBy_sortedI (w:=w) (g:=g) (n:=n) (os:=os) (L.mergeSort λx y=>decide (x<=y)).toArray;refine⟨rfl,?_,⟨r.os,r.tape,r.output,r.size,λk hk IX=>r.block k hk IX⟩⟩;unfold HI ae;rw[fm,hl];exact q
theorem KO.toBelow {w v:ϖ} (h:KO (λ_=>False) w v):Below w w v:=⟨h.os,h.tape,h.output,h.size,λk hk=>h.block k hk id⟩
theorem KO.of_alloc {F:Nat->Prop} {w v:ϖ} {o:Obj} (h:KO F (w.alloc o) v):KO F w v:=⟨h.os,h.tape,h.output,by have:=h.size;simp at this;omega,λk hk hF=>(h.block k ρJ hF).trans ((MapKept.heap_alloc w o).2 k hk)⟩
structure CD where
 id:Int
 par:Int
 lf:Bool
 r0:Int
 r1:Int
 r2:Int
 l0:Int
 l1:Int
 l2:Int
 u0:Int
 u1:Int
 u2:Int
 pk:Int
 by_:Int
abbrev CD.v (c:CD):ϗ:=φ #[ι ε c.id,ι ε c.par,β c.lf,ι υ c.r0,ι υ c.r1,ι υ c.r2,ι υ c.l0,ι υ c.l1,ι υ c.l2,ι υ c.u0,ι υ c.u1,ι υ c.u2,ι ε c.pk,ι ε c.by_]
def CD.ok (c:CD):Prop:=(1<=c.id/\c.id<=65536)/\(0<=c.par/\c.par<=65536)/\(0<=c.r0/\0<=c.r1/\0<=c.r2)/\(0<=c.l0/\0<=c.l1/\0<=c.l2)/\(0<=c.u0/\0<=c.u1/\0<=c.u2)
def tl (L:List CD):List (Int × ϗ):=L.map λc=>(c.id,c.v)
def fc (L:List CD)(id:Int):Option CD:=match L with
 | []=>none
 | c::r=>if id=c.id then some c else fc r id
def fz (x:CD):List CD->List CD
 | []=>[x]
 | c::r=>if x.id=c.id then x::r else c::fz x r
def pX (id:Int)(L:List CD):List CD:=L.filter λc=>decide (c.id≠id)
theorem wQ (id:Int):∀L:List CD,lk id (tl L)=(fc L id).map CD.v
 | []=>rfl
 | c::r=>by
  have ih:=wQ id r;simp only[tl,gY,lk,fc] at ih ⊢;split
  ·rfl
  ·exact ih
theorem lW (x:CD):∀L:List CD,tl (fz x L)=dH x.id x.v (tl L)
 | []=>rfl
 | c::r=>by
  have ih:=lW x r;simp only[tl,gY,dH,fz] at ih ⊢;split
  ·rename_i h;rw[gY,h]
  ·rw[gY,ih]
theorem Dt (id:Int)(L:List CD):tl (pX id L)=dF id (tl L):=by simp only[tl,pX,dF,List.filter_map];rfl
theorem aM {L:List CD} {id:Int} {c:CD}:fc L id=some c->c ∈ L/\c.id=id:=by
 induction L with
 | nil=>intro h;simp[fc] at h
 | cons a r ih=>intro h;exact ηG
def aF (w:ϖ)(T M:Nat)(L:List CD):Prop:=ah w T #[.map (some M)] 204/\aA w M (tl L)/\∀c ∈ L,c.ok
theorem aF.below {w v:ϖ} {T M:Nat} {L:List CD} (h:aF w T M L)(k:Below w w v):aF v T M L:=⟨h.1.below k h.1.size,h.2.1.below k,h.2.2⟩
instance {w T M L}:Mv (aF w T M L) w (λv'=>aF v' T M L):=⟨λk h=>aF.below h k⟩
theorem aF.ko {w v:ϖ} {F:Nat->Prop} {T M:Nat} {L:List CD} (h:aF w T M L)(k:KO F w v)(h1:¬F T)(h2:¬F M):aF v T M L:=⟨h.1.ko k h1,h.2.1.ko k h2,h.2.2⟩
theorem eW {w:ϖ} {M:Nat} {L:List CD} {id:Int} {c:CD} (h:aA w M (tl L))(hc:fc L id=some c):
  (Instr.lookup 202 (.map (some M)) (ι ε id) true).run Ψ w=.ok (χ #[φ (kE c.id c.par c.lf c.r0 c.r1 c.r2 c.l0 c.l1 c.l2 c.u0 c.u1 c.u2 c.pk c.by_),fJ]) w/\(Instr.lookup 202 (.map (some M)) (ι ε id) false).run Ψ w=.ok (φ (kE c.id c.par c.lf c.r0 c.r1 c.r2 c.l0 c.l1 c.l2 c.u0 c.u1 c.u2 c.pk c.by_)) w:=by
 have q:=am Φ Θ h id (z:=φ (kE 0 0 false 0 0 0 0 0 0 0 0 0 0 0)) ρm;rw[wQ,hc] at q;exact q
theorem iw {w:ϖ} {M:Nat} {L:List CD} {id:Int} (h:aA w M (tl L))(hc:fc L id=none):
  (Instr.lookup 202 (.map (some M)) (ι ε id) true).run Ψ w=.ok (χ #[φ (kE 0 0 false 0 0 0 0 0 0 0 0 0 0 0),dI]) w/\(Instr.lookup 202 (.map (some M)) (ι ε id) false).run Ψ w=.ok (φ (kE 0 0 false 0 0 0 0 0 0 0 0 0 0 0)) w:=by
 have q:=am Φ Θ h id (z:=φ (kE 0 0 false 0 0 0 0 0 0 0 0 0 0 0)) ρm;rw[wQ,hc] at q;exact q
def di (L:List CD)(id:Int):CD:=(fc L id).getD ⟨0,0,false,0,0,0,0,0,0,0,0,0,0,0⟩
theorem aC {w:ϖ} {M:Nat} {L:List CD} {id:Int} {a:CD} {b:Bool} (h:aA w M (tl L))(ha:di L id=a)(hb:(fc L id).isSome=b):
  (Instr.lookup 202 (.map (some M)) (ι ε id) true).run Ψ w=.ok (χ #[φ (kE a.id a.par a.lf a.r0 a.r1 a.r2 a.l0 a.l1 a.l2 a.u0 a.u1 a.u2 a.pk a.by_),β b]) w/\(Instr.lookup 202 (.map (some M)) (ι ε id) false).run Ψ w=.ok (φ (kE a.id a.par a.lf a.r0 a.r1 a.r2 a.l0 a.l1 a.l2 a.u0 a.u1 a.u2 a.pk a.by_)) w:=by
 subst ha;subst hb;rcases hc:fc L id with _|c
 ·have q:=iw h hc;simp only[di,hc];exact q
 ·have q:=eW h hc;simp only[di,hc];exact q
def lenOf:ϗ->Nat
 | ζ _ n _=>n
 | _=>0
def bQ (L:List CD):Int->List Int->Prop
 | id,[]=>fc L id=none
 | id,x::r=>∃c,fc L id=some c/\x=id/\bQ L c.par r
theorem vQ (a b:List CD):tl (a++b)=tl a++tl b:=by simp[tl]
theorem yf {R:List CD} {R1 R2:List (Int × ϗ)} {f:Int × ϗ} (h:tl R=R1++f::R2):∃D1 c D2,R=D1++c::D2/\f=(c.id,c.v)/\R1=tl D1/\R2=tl D2:=by
 induction R1 generalizing R with
 | nil=>
  cases R with
  | nil=>simp[tl] at h
  | cons c r=>simp only[tl,gY,List.nil_append,List.cons.injEq] at h;exact⟨[],c,r,rfl,h.1.symm,rfl,h.2.symm⟩
 | cons a R1 ih=>
  cases R with
  | nil=>simp[tl] at h
  | cons c r=>simp only[tl,gY,List.cons_append,List.cons.injEq] at h;obtain⟨D1,x,D2,e1,e2,e3,e4⟩:=ih h.2;exact⟨c::D1,x,D2,by rw[e1];rfl,e2,by simp only[tl,gY,List.cons.injEq];exact⟨h.1.symm,e3⟩,e4⟩
theorem lS {a b:List Int} (h:a.Perm b):(a.mergeSort λx y=>decide (x<=y))=(b.mergeSort λx y=>decide (x<=y)):=by
 have t:∀x y z:Int,decide (x<=y)=true->decide (y<=z)=true->decide (x<=z)=true:=by intro x y z;simp only[decide_eq_true_eq];omega
 have o:∀x y:Int,(decide (x<=y) || decide (y<=x))=true:=by intro x y;simp only[Bool.or_eq_true,decide_eq_true_eq];omega
 refine List.Perm.eq_of_pairwise (le:=λx y:Int=>x<=y) (λx y _ _ h1 h2=>by omega) ?_ ?_ ((List.mergeSort_perm a _).trans (h.trans (List.mergeSort_perm b _).symm))
 ·exact(List.pairwise_mergeSort t o a).imp ρp
 ·exact(List.pairwise_mergeSort t o b).imp ρp
def aN (p:CD->Bool)(L:List CD):List Int:=((L.filter p).map CD.id).mergeSort λx y=>decide (x<=y)
@[go_sem] abbrev fx (c:CD):Array ϗ:=#[ι ε c.id,ι ε c.par,β c.lf,c.r0,c.r1,c.r2,c.l0,c.l1,c.l2,c.u0,c.u1,c.u2,ι ε c.pk,ι ε c.by_]
theorem wL (T M:Nat)(L:List CD)(id:Int)(c:CD)(w:ϖ)(H:aF w T M L)(hc:fc L id=some c):
  CB 82 #[T,ι ε id] w (χ #[φ (fx c),Kz]):=by
 obtain⟨T',M',Jo⟩:=H;have zT:=T'.size;have zM:=M'.size;have Rb:=aB T' M';have Rr:=T'.r;have I9:=λo=>(eW (M'.alloc o) hc).1;unfold CB;go_in;go_wp2_with fail;refine Hd (θ3 (Ks (λ_=>False) w) T' M') (λv=>ah v w (fx c) 43) ρB ?_;clear Rr;rintro v1 R1 ⟨F',Kr,MU⟩ Rr;replace I9:=λo=>(eW (MU.alloc o) hc).1;replace rR:=R1.r;refine ZO (v:=χ #[φ (fx c),Kz]) (by simp[results,Tryz.results82,go_sem,rR.1]) rfl ⟨rfl,F'.toBelow⟩
theorem jm (T M:Nat)(L:List CD)(id:Int)(w:ϖ)(H:aF w T M L)(hc:fc L id=none):
  CB 82 #[T,ι ε id] w (χ #[φ (kE 0 0 false 0 0 0 0 0 0 0 0 0 0 0),ι ε 6]):=by
 obtain⟨T',M',Jo⟩:=H;have zT:=T'.size;have zM:=M'.size;have Rb:=aB T' M';have Rr:=T'.r;have I9:=λo=>(iw (M'.alloc o) hc).1;unfold CB;go_in;go_wp2_with fail;refine Hd (θ3 (Ks (λ_=>False) w) T' M') (λv=>ah v w (kE 0 0 false 0 0 0 0 0 0 0 0 0 0 0) 43) ρB ?_;clear Rr;rintro v1 R1 ⟨F',Kr,MU⟩ Rr;replace I9:=λo=>(iw (MU.alloc o) hc).1;replace rR:=R1.r;refine ZO (v:=χ #[φ (kE 0 0 false 0 0 0 0 0 0 0 0 0 0 0),ι ε 6]) (by simp[results,Tryz.results82,go_sem,rR.1]) rfl ⟨rfl,F'.toBelow⟩
theorem Aa (T M:Nat)(L:List CD)(id:Int)(xs:List Int)(w:ϖ)(H:aF w T M L)(hu:bQ L id xs)(hx:xs.length<=1000):Calls Ψ 116 #[T,ι ε id] w λe w'=>∃v,e=ϰ v/\HI w' w v xs/\Below w w w':=by
 go_in;have zT:=H.1.size;have zM:=H.2.1.size;go_wp2_with fail;go_loopw [1,5] (λa o wr=>∃(i:Int) (NV xs2:List Int),a=ι ε i/\HI wr w o NV/\bQ L i xs2/\xs=NV++xs2/\aF wr T M L/\KO (λ_=>False) w wr) (λ_ o _=>xs.length - lenOf o);case atStart=>exact⟨id,[],xs,rfl,ae.nil _ _,hu,rfl,H,KO.refl _ _⟩
 case round=>
  obtain⟨i,NV,xs2,rfl,H0,Yj,IF,T0,IB⟩:=hrel;have zw:=IB.size;obtain⟨oa,oc,rfl⟩:=H0.slice;cases xs2 with
  | nil=>go_wp2_with fail;refine Zc (θ3 IB T0 H0) ?_;rintro v1 ⟨F',T1,H1⟩;refine(jm T M L i _ T1 Yj).mono ?_;rintro e v2 ⟨rfl,kx⟩;obtain⟨T2,H2,Iz⟩:=Mw kx (θ3 T1 H1 F');clear kx;go_wp2_with fail;refine Zb (θ3 Iz T2 H2) ?_;rintro v3 ⟨ID,T3,H3⟩;go_ret;refine⟨_,rfl,by rw[IF,ZA];exact H3,ID.toBelow⟩
  | cons x r=>
   obtain⟨c,hc,rfl,hu1⟩:=Yj;have St:NV.length<=1000:=by have:=ZG List.length IF;simp at this;omega
   go_wp2_with fail;refine Zc (θ3 IB T0 H0) ?_;rintro v1 ⟨F',T1,H1⟩;refine(wL T M L x c _ T1 hc).mono ?_;rintro e v2 ⟨rfl,kx⟩;obtain⟨T2,H2,Iz⟩:=Mw kx (θ3 T1 H1 F');clear kx;go_upto_region 5 with (fail);refine Jw (θ3 Iz T2 H2) (λv=>ah v v2 (fx c) 43) ρB ?_;rintro v3 C3 ⟨ID,T3,H3⟩;replace cC:=C3.cell;replace fC:=C3.frozen;replace zC:=C3.size;have zk:=ID.size;go_wp2_with (refine au Tryz.underlying45 bD rfl (λ_=>rfl) ρI ρf ρf rfl (.tmp 17) (.tmp 19) rfl w (ζ oa NV.length oc) NV x v3 #[ι ε x] rfl ρr ρr (H3.below ρE) ρB ρa ρJ ?_;intro o4 v4 H4 kx;replace kx:=kx.of_alloc;have T4:=T3.ko kx (ae.notown H3 zT) (ae.notown H3 zM);have C4:=C3.ko kx (λh=>ae.ne_blk H3 C3 ρf h);have IC:KO (λ_=>False) w v4:=ID.trans kx (by intro y hy h;exact ax h (ae.notown H3 hy));have UT:=IC.size;replace cC:=C4.cell;replace fC:=C4.frozen;replace zC:=C4.size);go_roundw;case rel=>exact⟨c.par,NV++[x],r,rfl,H4,hu1,by rw[IF];simp,T4,IC⟩
   case measure=>obtain⟨_,_,rfl⟩:=H4.slice;have:=ZG List.length IF;simp[lenOf] at this ⊢;omega
theorem ou (T M:Nat)(L:List CD)(p:CD->Bool)(g:Nat)(lb:Array ϗ)(w:ϖ)(H:aF w T M L)(hL:L.length<=1000)(eg:∀args w,(callFunc g args).run Ψ w=.ok (.enter g args) w)
  (hf:∀c ∈ L,∀v,Below w w v->Calls Ψ g (#[φ (fx c)]++lb) v λe v'=>e=ϰ (β (p c))/\Below v v v'):Calls Ψ 136 #[T,.func (.func g) #[] lb] w λe w'=>∃v,e=ϰ v/\HI w' w v (aN p L)/\Below w w w':=by
 obtain⟨T1,M1,Jo⟩:=H;have rT:=T1.r;have zM:=M1.size;go_in;go_wp2_with (refine mq (K:=3) (E:=43) Φ rfl (.tmp 13) rfl M (tl L) ρr M1 ?_;intro w0 hI OH Ka);go_frame;go_loopw [5] (λo wr=>∃R D:List CD,gZ wr w M (tl R)/\(D++R).Perm L/\HI wr (w+1) o ((D.filter p).map CD.id)/\KO (λ_=>False) w wr/\w.heap.size<wr) (λ_ wr=>sf wr w M);case atStart=>exact⟨L,[],hI,by simp,ae.nil _ _,KO.of_below OH,by omega⟩
 case round=>
  obtain⟨R,D,I0,LY,H0,IB,zw⟩:=hrel;have hlR:D.length+R.length=L.length:=by have:=LY.length_eq;rw[ZL] at this;exact this
  have Vg:((D.filter p).map CD.id).length<=1000:=by rw[pf];have:=ZH p D;omega
  obtain⟨NV,JT⟩:=Nq ((D.filter p).map CD.id);rw[JT] at H0 Vg;have JT:=ag JT;have Np:=jL I0;obtain⟨oa,oc,rfl⟩:=H0.slice;go_wp2_with (refine mH rfl (.tmp 14) rfl w M (tl R) ρr I0 ?_ ?_)
  ·intro hR0;have hR0:R=[]:=by cases R with|nil=>rfl|cons a r=>simp[tl] at hR0
   subst hR0;rw[ZA] at LY;clear hlR Np;go_wp2_with fail;refine Zc (θ2 IB H0) ?_;rintro v1 ⟨F',H1⟩;refine(Bx H1 ρa).mono ?_;rintro e v2 ⟨rfl,S,kx⟩;have Iz:KO (λ_=>False) w v2:=F'.trans kx (λy hy h=>ax h (ae.notown H1 ρa));go_wp2;go_ret;refine⟨_,rfl,?_,Iz.toBelow⟩;have S:=S.base_le (Nat.le_succ _);have q:=lS ((LY.filter p).map CD.id);rw[JT.out] at q;rw[q] at S;exact S
  ·intro R1 fk fv R2 w1 hR hI1 IG Ju N8 NC;obtain⟨D1,c,D2,rfl,ef,rfl,rfl⟩:=yf hR;obtain⟨rfl,rfl⟩:=Prod.mk.inj ef;have hcL:c ∈ L:=LY.subset ρp;rw[<- vQ] at hI1;have F':KO (λ_=>False) w w1:=IB.step IG (by intro x hx h;omega);have H1:HI w1 (w+1) (ζ oa NV.length oc) NV:=H0.kept (Nat.lt_succ_self _) N8;have zw1:w.heap.size<w1:=ρa;have NC:=ag NC;clear I0 H0 IB IG N8 Ju;have NC:=NC.out;have I1:=hI1;clear hI1;rcases Vl:p c with _|_
   ·have hq:=Vl;have Vl:=ag Vl;clear hq;go_upto_region 7 with (fail);refine Jw (θ3 F' H1 I1) (λv=>ah v w1 (fx c) 43) ρB ?_;rintro v2 C2 ⟨Iz,H2,I2⟩;replace cC:=C2.cell;replace fC:=C2.frozen;replace zC:=C2.size;go_wp2_with (go_at_fn g;refine(hf c hcL _ Iz.toBelow).mono ?_;rintro e v4 ⟨e0,kx⟩;rw[Vl.out] at e0;subst e0;have H4:=H2.below kx;have I4:=I2.below kx;have C4:=C2.below kx C2.size;have IC:KO (λ_=>False) w v4:=Iz.step0 kx;replace cC:=C4.cell;replace fC:=C4.frozen;replace zC:=C4.size;clear kx;have zk:=IC.size);go_roundw;case rel=>exact⟨D1++D2,D++[c],I4,List.Perm.trans τC LY,by rw[List.filter_append,List.filter_cons_of_neg (by simp[Vl.out]),List.filter_nil,ZA,JT.out];exact H4,IC,by omega⟩
    case measure=>rw[jL I4,Np];simp[tl]
   ·have hq:=Vl;have Vl:=ag Vl;clear hq;go_upto_region 7 with (fail);refine Jw (θ3 F' H1 I1) (λv=>ah v w1 (fx c) 43) ρB ?_;rintro v2 C2 ⟨Iz,H2,I2⟩;replace cC:=C2.cell;replace fC:=C2.frozen;replace zC:=C2.size;go_wp2_with (first|(go_at_fn g;refine(hf c hcL _ Iz.toBelow).mono ?_;rintro e v4 ⟨e0,kx⟩;rw[Vl.out] at e0;subst e0;have H4:=H2.below kx;have I4:=I2.below kx;have C4:=C2.below kx C2.size;have IC:KO (λ_=>False) w v4:=Iz.step0 kx;replace cC:=C4.cell;replace fC:=C4.frozen;replace zC:=C4.size;clear kx;have zk:=IC.size)|(refine au Tryz.underlying45 bD rfl (λ_=>rfl) ρI ρf ρf rfl (.tmp 23) (.tmp 25) rfl (w+1) (ζ oa NV.length oc) NV c.id v4 #[ι ε c.id] rfl ρr ρr (H4.below ρE) ρB ρa ρJ ?_;intro o6 v6 H6 kx;replace kx:=kx.of_alloc;have I6:=I4.ko kx (ae.notown H4 (Nat.lt_succ_self _)) (ae.notown H4 ρa);have C6:=C4.ko kx (λh=>ae.ne_blk H4 C4 ρf h);have IQ:KO (λ_=>False) w v6:=IC.trans kx (by intro y hy h;exact ax h (ae.notown H4 ρa));have zk6:=IQ.size;replace cC:=C6.cell;replace fC:=C6.frozen;replace zC:=C6.size));go_roundw;case rel=>exact⟨D1++D2,D++[c],I6,List.Perm.trans τC LY,by rw[List.filter_append,List.filter_cons_of_pos (by simp[Vl.out]),List.filter_nil,List.map_append,JT.out];exact H6,IQ,by omega⟩
    case measure=>rw[jL I6,Np];simp[tl]
theorem FV (c:CD)(w:ϖ):Calls Ψ 137 (#[φ (fx c)]++#[]) w λe w'=>e=ϰ fJ/\Below w w w':=by go_in;go_wp2;go_ret;exact⟨rfl,ρE⟩
theorem yV (c:CD)(w:ϖ):Calls Ψ 150 (#[φ (fx c)]++#[]) w λe w'=>e=ϰ (β c.lf)/\Below w w w':=by go_in;go_wp2;go_ret;exact⟨rfl,ρE⟩
theorem uF (c:CD)(id:Int)(X:Nat)(w:ϖ)(hX:ah w X #[ι ε id] 3):Calls Ψ 231 (#[φ (fx c)]++#[ψ X]) w λe w'=>e=ϰ (β (decide (c.par=id)))/\Below w w w':=by have Rr:=hX.r;rw[show decide (c.par=id)=(c.par==id) by rw[Bool.eq_iff_iff];simp];go_in;go_wp2;go_ret;exact⟨rfl,ρE⟩
theorem Cv (T M:Nat)(L:List CD)(w:ϖ)(H:aF w T M L)(hL:L.length<=1000):Calls Ψ 104 #[T] w λe w'=>∃v,e=ϰ v/\HI w' w v (aN (λ_=>true) L)/\Below w w w':=by
 go_in;go_wp2_with fail;refine(ou T M L (λ_=>true) 137 #[] w H hL (enters_of Tryz.func137 ρh rfl) (λc _ v _=>FV c v)).mono ?_;rintro e v ⟨u,rfl,h,hb⟩;go_wp2;go_ret;exact⟨u,rfl,h,hb⟩
theorem tP (T M:Nat)(L:List CD)(w:ϖ)(H:aF w T M L)(hL:L.length<=1000):Calls Ψ 120 #[T] w λe w'=>∃v,e=ϰ v/\HI w' w v (aN (CD.lf) L)/\Below w w w':=by
 go_in;go_wp2_with fail;refine(ou T M L (CD.lf) 150 #[] w H hL (enters_of Tryz.func150 ρh rfl) (λc _ v _=>yV c v)).mono ?_;rintro e v ⟨u,rfl,h,hb⟩;go_wp2;go_ret;exact⟨u,rfl,h,hb⟩
theorem jK (T M:Nat)(L:List CD)(id:Int)(w:ϖ)(H:aF w T M L)(hL:L.length<=1000):Calls Ψ 179 #[T,ι ε id] w λe w'=>∃v,e=ϰ v/\HI w' w v (aN (λc=>decide (c.par=id)) L)/\Below w w w':=by
 go_in;go_wp2_with fail;refine(ou T M L (λc=>decide (c.par=id)) 231 #[w] _ (H.below ρE) hL (enters_of Tryz.func231 ρh rfl) (λc _ v hv=>uF c id w v (ah.below ρB hv ρp))).mono ?_;rintro e v ⟨u,rfl,h,hb⟩;go_wp2;go_ret;exact⟨u,rfl,h.base_le ρp,Below.trans ρE (hb.mono ρp)⟩
theorem wK (T M:Nat)(L:List CD)(id:Int)(xs:List Int)(w:ϖ)(H:aF w T M L)(hu:bQ L id xs)(hx:xs.length<=1000):
  CB 177 #[T,ι ε id] w (ι ε xs.length):=by
 unfold CB;go_in;go_wp2_with fail;refine(Aa T M L id xs w H hu hx).mono ?_;rintro e v ⟨u,rfl,h,hb⟩;obtain⟨a,IM,rfl⟩:=h.slice;go_wp2;go_ret;exact⟨rfl,hb⟩
def kh (L:List CD)(id:Int):Bool:=match fc L id with|none=>decide (id=0)|some c=>decide (id=0) || cW (kd c.l0 c.l1 c.l2)
theorem tQ (T M:Nat)(L:List CD)(id:Int)(w:ϖ)(H:aF w T M L):
  CB 176 #[T,ι ε id] w (β (kh L id)):=by
 obtain⟨T',M',Jo⟩:=H;have rT:=T'.r;have zM:=M'.size;by_cases h0:id=0
 ·have e:kh L id=true:=by unfold kh;cases fc L id<;>simp[h0]
  rw[e];subst h0;exact ξV
 ·have hb:(id==0)=false:=by simpa using h0
  rcases hc:fc L id with _|c
  ·have e:kh L id=false:=by unfold kh;rw[hc];simp[h0]
   have lM:=(iw M' hc).2;have KH:=λd os=>(iw (M'.grow d os) hc).2;rw[e];have he:=ag e;clear e;unfold CB;go_in;go_wp2_with (go_at_call 105;refine(lb _ 0 0 false 0 0 0 0 0 0 0 0 0 0 0 ρa false ρf).mono ?_;rintro e v ⟨rfl,hb⟩);go_ret;exact⟨rfl,ρE⟩
  ·obtain⟨s,hs⟩:=Nq (cW (kd c.l0 c.l1 c.l2));have e:kh L id=s:=by unfold kh;rw[hc];simp[h0,hs]
   have lM:=(eW M' hc).2;have KH:=λd os=>(eW (M'.grow d os) hc).2;have ok:=(Jo c (aM hc).1).2.2.2.1;rw[e];have he:=ag e;have hs:=ag hs;clear e;unfold CB;go_in;go_wp2_with (go_at_call 105;refine(lb _ _ _ _ _ _ _ _ _ _ _ _ _ _ _ ok s hs.out).mono ?_;rintro e v ⟨rfl,hb⟩);go_ret;exact⟨rfl,ρE⟩
theorem F4 (T M:Nat)(L:List CD)(id:Int)(w:ϖ)(H:aF w T M L)(hL:L.length<=1000):Calls Ψ 143 #[T,ι ε id] w λe w'=>∃n L',e=ϰ (ι ε n)/\aF w' T M L'/\(n=0->L'=pX id L)/\(n≠0->L'=L)/\KO (λy=>y=M) w w':=by
 obtain⟨T',M',Jo⟩:=H;have zT:=T'.size;have zM:=M'.size;have Rb:=aB T' M';obtain⟨a,ha⟩:=Nq (di L id);obtain⟨b,hb⟩:=Nq ((fc L id).isSome);have ha:=ag ha;have hb:=ag hb;have Rr:=T'.r;have I9:=(aC M' ha.out hb.out).1;go_in;go_upto_region 4 with (fail);refine jf (θ3 (Ks (λy=>y=M) w) T' M') (λv=>ah v w (fx a) 43) ρB ?_;clear Rr;rintro v1 Y1 ⟨F',Kr,MU⟩ Rr;replace I9:=(aC MU ha.out hb.out).1;replace Rr:=Y1.r;rcases b with _|_
 ·go_wp2;go_ret;exact⟨6,L,rfl,⟨Kr.below ρE Kr.size,MU.below ρE,Jo⟩,λh=>ax h ρa,λ_=>rfl,F'.step0 ρE⟩
 ·go_wp2_with fail;refine kL (θ4 F' Kr MU Y1) ?_;clear Rr;rintro v2 ⟨Iz,KW,Ml,Y2⟩ Rr;replace I9:=(aC Ml ha.out hb.out).1;refine(jK T M L id _ ⟨KW,Ml,Jo⟩ hL).mono ?_;rintro e v3 ⟨u,rfl,h,kx⟩;obtain⟨oa,oc,rfl⟩:=h.slice;clear Rr;obtain⟨⟨KA,MJ,Y3,ID⟩,Rr⟩:=Mx kx (θ4 KW Ml Y2 Iz);replace I9:=(aC MJ ha.out hb.out).1;clear kx;obtain⟨n,hn⟩:=Nq ((aN (λc=>decide (c.par=id)) L).length);rw[hn];have hn:=ag hn;rcases Nat.eq_zero_or_pos n with h0|h0
  ·subst h0;obtain⟨v4,PH,Nw,kx,zx⟩:=gI Φ Θ MJ id;have IC:=ID.trans kx κl;have Kt:=KA.ko kx (by intro h;omega);clear I9;go_wp2;go_ret;exact⟨0,pX id L,rfl,⟨Kt.below ρE Kt.size,by rw[Dt];exact Nw.below ρE,λc hc=>Jo c (List.mem_filter.1 hc).1⟩,λ_=>rfl,λh=>ax rfl h,IC.step0 ρE⟩
  ·have hg:(0:Int)<(n:Int):=by omega
   go_wp2;go_ret;exact⟨23,L,rfl,⟨KA.below ρE KA.size,MJ.below ρE,Jo⟩,λh=>ax h ρa,λ_=>rfl,ID.step0 ρE⟩
def ii (p:Int->Bool):List Int->Nat->Int
 | [],_=>-1
 | x::r,i=>if p x then i else ii p r (i+1)
theorem jo (p:Int->Bool):∀(l:List Int)(i:Nat),decide (0<=ii p l i)=l.any p
 | [],i=>rfl
 | x::r,i=>by
  unfold ii;rcases h:p x with _|_
  ·rw[ZI ρp,jo p r,List.any_cons,h,Bool.false_or]
  ·rw[ZP rfl,List.any_cons,h,Bool.true_or];exact ZT ρa
theorem AR (base:Nat)(v:ϗ)(xs:List Int)(p:Int->Bool)(g:Nat)(lb:Array ϗ)(w:ϖ)(H:HI w base v xs)(hx:xs.length<=1000000)(eg:∀args w,(callFunc g args).run Ψ w=.ok (.enter g args) w)
  (hp:∀x v,Below w w v->Calls Ψ g (#[ι ε x]++lb) v λe v'=>e=ϰ (β (p x))/\Below v v v'):
  CB 113 #[v,.func (.func g) #[] lb] w (ι ε (ii p xs 0)):=by
 obtain⟨oa,oc,rfl⟩:=H.slice;obtain⟨n,hn⟩:=Nq xs.length;rw[hn] at H ⊢;unfold CB;go_in;go_wp2_with fail;go_loopw [8] (λk wr=>∃(a b:List Int),k=ι ε (a.length:Nat)/\xs=a++b/\ii p xs 0=ii p b a.length/\HI wr base (ζ oa n oc) xs/\KO (λ_=>False) w wr) (λk _=>n - (intOf k).toNat);case atStart=>exact⟨[],xs,rfl,rfl,rfl,H,KO.refl _ _⟩
 case round=>
  obtain⟨a,b,rfl,IF,hi,H0,IB⟩:=hrel;have IK:a.length+b.length=n:=ρy;obtain⟨q,hq⟩:=Nq a.length;rw[hq] at IK hi ⊢;cases b with
  | nil=>exact ξD
  | cons x r=>
   refine δb ?_;intro IJ hd;have Lz:xs[q]?=some x:=ρF;have IX:xs≠[]:=ρR;obtain⟨Tz,MX,g0,e0,JA,e1,_⟩:=ae.at H0 (λ_=>rfl);have e1:=e1 IX;obtain⟨rfl,_,rfl⟩:=ZV e0;subst e1;obtain⟨cx,gx,bx⟩:=HI.cell H0 q x Lz;have KL:q<n:=ρa;change Hid _ at hi IF hq hn JA IK;rcases Pp:p x with _|_
   ·replace Pp:=ag Pp;go_wp2_with (go_at_fn g;refine(hp x _ (IB.step0 ρE).toBelow).mono ?_;rintro e v4 ⟨e0,kx⟩;rw[Pp.out] at e0;subst e0;have IC:KO (λ_=>False) w v4:=IB.step0 (Below.trans ρE (kx.mono ρp));have H4:=ae.below (ae.below H0 ρE) kx);go_roundw;case rel=>exact ξz
    case measure=>exact ξc
   ·replace Pp:=ag Pp;go_wp2_with (go_at_fn g;refine(hp x _ (IB.step0 ρE).toBelow).mono ?_;rintro e v4 ⟨e0,kx⟩;rw[Pp.out] at e0;subst e0;have IC:KO (λ_=>False) w v4:=IB.step0 (Below.trans ρE (kx.mono ρp));have H4:=ae.below (ae.below H0 ρE) kx);go_ret;exact⟨by rw[hi.out,ii,ZP Pp.out];rfl,(IC.step0 ρE).toBelow⟩
theorem lP (base:Nat)(v:ϗ)(xs:List Int)(p:Int->Bool)(g:Nat)(lb:Array ϗ)(w:ϖ)(H:HI w base v xs)(hx:xs.length<=1000000)(eg:∀args w,(callFunc g args).run Ψ w=.ok (.enter g args) w)
  (hp:∀x v,Below w w v->Calls Ψ g (#[ι ε x]++lb) v λe v'=>e=ϰ (β (p x))/\Below v v v'):
  CB 78 #[v,.func (.func g) #[] lb] w (β (xs.any p)):=by
 rw[<- jo p xs 0];unfold CB;go_in;go_wp2_with fail;refine(AR base v xs p g lb w H hx eg hp).mono ?_;rintro e v ⟨rfl,hb⟩;go_wp2;go_ret;exact⟨rfl,hb⟩
theorem xO (base:Nat)(v:ϗ)(xs:List Int)(w:ϖ)(H:HI w base v xs)(hx:xs.length<=1000000)(hp:xs.Pairwise (· < ·)):Calls Ψ 112 #[v] w λe w'=>e=ϰ v/\Below w w w':=by
 obtain⟨oa,oc,rfl⟩:=H.slice;obtain⟨n,hn⟩:=Nq xs.length;rw[hn] at H ⊢;by_cases h2:(n:Int)<2
 ·have hd:=ZT h2;go_in;exact ηR
 have Li:=ZF h2;have IX:xs≠[]:=by intro h;rw[h] at hn;simp at hn;omega
 obtain⟨Tz,MX,g0,e0,JA,e1,_⟩:=ae.at H (λ_=>rfl);have e1:=e1 IX;obtain⟨rfl,-,rfl⟩:=ZV e0;subst e1;have hcap2:n<=oc:=ρa;replace hn:=ag hn;clear JA e0;go_in;go_wp2_with fail;go_loopw [3] (λk wr=>∃q:Nat,k=ι ε q/\1<=q/\q<=n/\KO (λ_=>False) w wr) (λk _=>n - (intOf k).toNat);case atStart=>exact⟨1,rfl,by omega,by omega,KO.refl _ _⟩
 case round=>
  obtain⟨q,rfl,J2,KL,IB⟩:=hrel;have H0:=ae.ko H IB (λ_ _ _ h=>h);have zw:=IB.size;by_cases IJ:(q:Int)<(n:Int)
  rotate_left
  ·have hd:=ZF IJ;go_wp2;go_ret;exact⟨rfl,(IB.step0 ρE).toBelow⟩
  have hd:=ZT IJ;have hql:q<xs.length:=κi;obtain⟨r,rfl⟩:∃r,q=r+1:=⟨q - 1,by omega⟩;have cx:∀d os,_:=λd os=>(HI.cell (H0.below (ZW wr d os)) (r+1) _ (List.getElem?_eq_getElem hql)).1;have cy:∀d os,_:=λd os=>(HI.cell (H0.below (ZW wr d os)) r _ (List.getElem?_eq_getElem ρa)).1;have hgl:=(HI.cell H0 r _ (List.getElem?_eq_getElem ρa)).2.1;have Kg:xs[r]<xs[r+1]:=List.pairwise_iff_getElem.1 hp r (r+1) ρa hql ρa;obtain⟨x,hx⟩:=Nq (xs[r+1]);obtain⟨y,hy⟩:=Nq (xs[r]);rw[hx] at cx Kg;rw[hy] at cy Kg;have hb:(x==y)=false:=ρJ;clear hx hy;have Uu:((r:Int)+1 - 1)=r:=ρa;have Tw:IntKind.i64.wrap ((r:Int)+1 - 1)=r:=by rw[Uu];exact IntWalk.i64_in _ ⟨by omega,by omega⟩
  go_upto_region 6 with (fail);refine Wq ?_
  repeat (go_big_quiet_step (fail))
  refine wpQuiet_nil ?_;intro _ NG;obtain⟨pq,KN⟩:=NG;subst KN;have F':KO (λ_=>False) w (grow (redrawn wr pq.d) pq.os):=IB.step0 (ZW wr pq.d pq.os);generalize grow (redrawn wr pq.d) pq.os=v1 at*;have Sw:r+1<n:=ρa;go_wp2;go_roundw;case rel=>exact⟨r+1+1,by go_num,by omega,by omega,F'.step0 ρE⟩
  case measure=>simp[intOf];omega
inductive TG where
 | no | sy | by_ | km | lv | tr | ac | ab | ao | ak
 | aki (p:Int) | kd (p:Int) | en (i:Int) | qu (i:Int)
abbrev aT:=Nat->TG
structure AS where
 (on:Int->Bool)
 (K:Int->List Int)
def AS.is (S:AS)(i:Int):Bool:=S.on i || decide (0<(S.K i).length)
def dz (c:CD):Bool:=cW (kd c.l0 c.l1 c.l2)
abbrev Ey (c:CD):ϗ:=φ #[ι ε c.par,ι ε (if c.lf then 1 else 0)]
def ew (L:List CD)(i:Int):Option ϗ:=match fc L i with
 | some c=>if dz c then some (Ey c) else none
 | none=>none
def lF (l:List Int):List (Int × ϗ):=l.map λi=>(i,ι ε 1)
def bw (o:aT)(w:ϖ)(LK:List (Int × ϗ))(K:Int->List Int):Prop:=∀p,((lk p LK).getD (.map none)=.map none/\K p=[])\/∃b,(lk p LK).getD (.map none)=.map (some b)/\aA w b (lF (K p))/\o b=.aki p
theorem bw.ko {o:aT} {w v:ϖ} {LK:List (Int × ϗ)} {K:Int->List Int} {F:Nat->Prop} (h:bw o w LK K)(k:KO F w v)(hF:∀x l p,aA w x l->o x=.aki p->¬F x):bw o v LK K:=λp=>(h p).imp id λ⟨b,h1,h2,h3⟩=>⟨b,h1,h2.ko k (hF b _ p h2 h3),h3⟩
theorem bw.below {o:aT} {w v:ϖ} {LK:List (Int × ϗ)} {K:Int->List Int} (h:bw o w LK K)(k:Below w w v):bw o v LK K:=λp=>(h p).imp id λ⟨b,h1,h2,h3⟩=>⟨b,h1,h2.below k,h3⟩
instance {o w LK K}:Mv (bw o w LK K) w (λv'=>bw o v' LK K):=⟨λk h=>bw.below h k⟩
theorem bw.own {o o':aT} {w:ϖ} {LK:List (Int × ϗ)} {K:Int->List Int} (h:bw o w LK K)(e:∀x,x<w.heap.size->o' x=o x):bw o' w LK K:=λp=>(h p).imp id λ⟨b,h1,h2,h3⟩=>⟨b,h1,h2,(e b h2.size).trans h3⟩
def aw {β:Type} (f:Int->β)(k:Int)(v:β):Int->β:=λj=>if j=k then v else f j
theorem bw.set {o o':aT} {w v:ϖ} {LK LK':List (Int × ϗ)} {K:Int->List Int} {p:Int} {l:List Int} {N:Nat} (h:bw o w LK K)(hk:∀b q l',q≠p->aA w b l'->o b=.aki q->aA v b l'/\o' b=.aki q)(hLK:∀q,(lk q LK').getD (.map none)=if q=p then .map (some N) else (lk q LK).getD (.map none))(hN:aA v N (lF l))(ho:o' N=.aki p):bw o' v LK' (aw K p l):=by
 intro q;rw[hLK q];unfold aw;by_cases e:q=p
 ·rw[ZP e,ZP e];exact .inr ⟨N,rfl,hN,by rw[e];exact ho⟩
 ·rw[ZI e,ZI e];rcases h q with g|⟨b,g1,g2,g3⟩
  ·exact .inl g
  ·obtain⟨k1,k2⟩:=hk b q _ e g2 g3;exact .inr ⟨b,g1,k1,k2⟩
theorem ae.ne_map {α:Type} {e:TypeId} {n:Nat} {enc:α->List ϗ} {w:ϖ} {base:Nat} {v:ϗ} {l:List α} {M:Nat} {L:List (Int × ϗ)} (h:ae e n enc w base v l)(hB:aA w M L):¬some M=v.ownBlock:=by
 intro q;rcases h.2 with ⟨hv,_⟩|⟨g,IM,Lp,hv,_,hh,_⟩
 ·rw[hv] at q;cases q
 ·rw[hv] at q;cases q
  obtain⟨es,ck,h1,_⟩:=hB;rw[hh] at h1;cases h1
def cK (o:aT)(w:ϖ)(B A O C:Nat)(L:List CD)(S:AS):Prop:=ah w B #[.map (some A),.map (some O),.map (some C)] 216/\(∃LB,aA w A LB/\∀i,lk i LB=ew L i)/\(∃LO,aA w O LO/\∀i,(lk i LO).isSome=S.on i)/\
 (∃LK,aA w C LK/\bw o w LK S.K)/\o B=.ac/\o A=.ab/\o O=.ao/\o C=.ak
def dG (i:Int)(l:List Int):List Int:=if i ∈ l then l else l++[i]
theorem qd (i:Int):∀l:List Int,dH i Ko (lF l)=lF (dG i l)
 | []=>rfl
 | a::r=>by
  have ih:=qd i r;simp only[lF,gY,dH,dG,ZC] at ih ⊢;by_cases h:i=a
  ·rw[ZP h,ZP (.inl h),h];rfl
  ·rw[ZI h,ih];by_cases h2:i ∈ r
   ·rw[ZP h2,ZP (.inr h2)];rfl
   ·rw[ZI h2,ZI (by simp[h,h2])];rfl
theorem wZ (i:Int)(l:List Int):dF i (lF l)=lF (l.filter λj=>decide (j≠i)):=by simp only[lF,dF,List.filter_map];rfl
theorem lG (l:List Int):(lF l).length=l.length:=by simp[lF]
def bM (L:List CD):Int->List Int->Prop
 | id,[]=>id=0
 | id,x::r=>x=id/\∃c,fc L id=some c/\dz c=true/\bM L c.par r
theorem bM.size {L:List CD}:∀{xs:List Int} {i:Int},bM L i xs->True:=λ_=>trivial
theorem ae.one {α:Type} {e:TypeId} {n:Nat} {enc:α->List ϗ} {w:ϖ} {base g:Nat} {cs:Array ϗ} {x:α} (h:ah w g cs e)(hc:cs.toList=enc x)(hb:base<=g)(hn:(enc x).length=n):ae e n enc w base (ζ g 1 1) [x]:=by
 have hs:cs.size=n:=by rw[<- hn,<- hc];simp
 refine⟨by simp[hn],.inr ⟨g,1,cs,rfl,hb,h,ZR _,by unfold maxLen;omega,by omega,?_⟩⟩;simp only[rq,Nat.one_mul,List.flatMap_cons,List.flatMap_nil,ZA,hc];exact List.take_of_length_le ρa
def aX (K:Int->List Int):List Int->List Int × (Int->List Int)
 | []=>([],K)
 | [i]=>([i],aw K 0 (dG i (K 0)))
 | i::p::r=>if K p=[] then (i::(aX (aw K p (dG i (K p))) (p::r)).1,(aX (aw K p (dG i (K p))) (p::r)).2) else ([i],aw K p (dG i (K p)))
def dy (i:Int)(l:List Int):List Int:=l.filter λj=>decide (j≠i)
def aH (K:Int->List Int):List Int->List Int × (Int->List Int)
 | []=>([],K)
 | [i]=>([i],aw K 0 (dy i (K 0)))
 | i::p::r=>if dy i (K p)=[] then (i::(aH (aw K p (dy i (K p))) (p::r)).1,(aH (aw K p (dy i (K p))) (p::r)).2) else ([i],aw K p (dy i (K p)))
def TG.act:TG->Prop
 | .ao=>True
 | .ak=>True
 | .aki _=>True
 | _=>False
theorem wg (S:AS)(B A O C:Nat)(o:aT)(L:List CD)(id:Int)(w:ϖ)(H:cK o w B A O C L S):Calls Ψ 124 #[B,ι ε id] w λe w'=>e=ϰ (β (S.is id))/\w=w':=by
 obtain⟨B',⟨LB,A',hA⟩,⟨LO,O',hO⟩,⟨LK,C',hK⟩,oB,oA,oO,oC⟩:=H;have Rr:=B'.r;have lO:=(am Tryz.underlying213 Θ O' id (z:=Kz) ρm).1;rw[hO id] at lO;have lC:=(am Tryz.underlying214 Θ C' id (z:=.map none) ρm).2;obtain⟨x,hx⟩:=Nq ((lk id LO).getD Kz);rw[hx] at lO;unfold AS.is;obtain⟨b,hb⟩:=Nq (S.on id);rw[hb] at lO ⊢;obtain⟨n,hn⟩:=Nq ((S.K id).length);have lL:∃v,(lk id LK).getD (.map none)=v/\∀ty,(Builtin.len_ #[213] ty #[v]).run Ψ w=.ok (ι ε n) w:=by
  refine⟨_,rfl,λty=>?_⟩;rcases hK id with ⟨h1,h2⟩|⟨b,h1,h2,h3⟩
  ·rw[h1,<- hn,h2];exact kg (T:=213) (K:=3) (E:=3) (P:=Ψ) Tryz.underlying213 w ty
  ·rw[h1,<- hn];exact(aS (P:=Ψ) (T:=213) (K:=3) (E:=3) Tryz.underlying213 h2 ty).trans (by rw[lG])
 obtain⟨v,hv,lL⟩:=lL;rw[hv] at lC;clear hK hO hA hx hv;have Hn:=ag hn;clear hn;rcases b with _|_
 ·by_cases h0:n=0
  ·have hd:=df ((0:Int)<(n:Int));go_in;go_wp2;go_ret;exact⟨by rw[Hn.out];first|(simp[h0];done)|(subst h0;rfl),rfl⟩
  ·have hd:=dt ((0:Int)<(n:Int));go_in;go_wp2;go_ret;exact⟨by rw[Hn.out];first|(simp;done)|(simp;omega),rfl⟩
 ·go_in;go_wp2;go_ret;exact⟨by simp,rfl⟩
theorem vk (a b:Int)(v:ϖ):(Instr.field 219 (φ #[ι ε a,ι ε b]) 0).run Ψ v=.ok (ι ε a) v/\(Instr.field 219 (φ #[ι ε a,ι ε b]) 1).run Ψ v=.ok (ι ε b) v:=⟨by kernel_rfl,by kernel_rfl⟩
theorem DR (S:AS)(B A O C:Nat)(o:aT)(L:List CD)(leaf:Int)(xs:List Int)(c:CD)(w:ϖ)(H:cK o w B A O C L S)(hc:fc L leaf=some c)(hs:dz c=true)(hl:c.lf=true)(hi:S.is leaf=false)(hp:bM L leaf xs)(h00:fc L 0=none)(Kx:xs≠[])(hx:xs.length<=1000):Calls Ψ 84 #[B,ι ε leaf] w λe w'=>∃v,e=ϰ (χ #[v,Kz])/\HI w' w v (aX S.K xs).1/\∃o',cK o' w' B A O C L ⟨aw S.on leaf true,(aX S.K xs).2⟩/\(∀x,x<w.heap.size->o' x=o x)/\KO (λx=>(o x).act) w w':=by
 have H0:=H;obtain⟨B',⟨LB,A',hA⟩,⟨LO,O',hO⟩,⟨LK,C',KF⟩,oB,oA,oO,oC⟩:=H;have nBO:B≠O:=aB B' O';have nBC:B≠C:=aB B' C';have nAO:A≠O:=by intro h;rw[h,oO] at oA;cases oA
 have nAC:A≠C:=by intro h;rw[h,oC] at oA;cases oA
 have nCO:C≠O:=by intro h;rw[h,oO] at oC;cases oC
 have TC:=B'.size;have zA0:=A'.size;have YE:=O'.size;have Xc:=C'.size;obtain⟨q,hq⟩:=Nq c.par;have lA:∀{v:ϖ},aA v A LB->(Instr.lookup 212 (.map (some A)) (ι ε leaf) false).run Ψ v=.ok (φ #[ι ε q,Ko]) v:=fun {v} h=>ηe
 have lA2:∀(v:ϖ) (i:Int) (d:CD),aA v A LB->fc L i=some d->dz d=true->∃y,(Instr.lookup 212 (.map (some A)) (ι ε i) false).run Ψ v=.ok (φ #[ι ε d.par,ι ε y]) v:=λv i d h hd Yh=>ηf
 have hA:=ag hA;have hO:=ag hO;have lA2:=ag lA2;have zS:=bM.size hp;have pf0:=λa b v=>(vk a b v).1;have pf1:=λa b v=>(vk a b v).2;have Ni:=B'.cell;have Nl:=B'.frozen;have Nt:=B'.size;have WP:=(lA A');go_in;go_wp2_with fail;refine(wg S B A O C o L leaf w H0).mono ?_;rintro e v ⟨rfl,rfl⟩;rw[hi];go_upto_region 7 with (fail);refine Zw (θ6 (Ks (λx=>(o x).act) w) B' A' O' C' KF) ?_;rintro v1 ⟨F',J',Om,YV,TE,KF1⟩;replace Ni:=J'.cell;replace Nl:=J'.frozen;replace Nt:=J'.size;replace WP:=(lA Om);have Mi:=af J';have qA'0:=λd os=>(lA (Om.grow d os));refine Ws 12 (gw ?_);refine Zq (θ6 J' Om YV TE KF1 F') ?_;rintro v2 ⟨JU,OU,Rt,Qu,VE,Iz⟩;replace Ni:=JU.cell;replace Nl:=JU.frozen;replace Nt:=JU.size;replace WP:=(lA OU);clear Mi qA'0 J' Om YV TE KF1;obtain⟨v3,Js,TK,kx,zx⟩:=bz Tryz.underlying213 Θ Rt leaf (ι ε q);have JL:=JU.ko kx σE;have Qr:=OU.ko kx σE;have TF:=Qu.ko kx σE;have VF:=VE.ko kx (λx l p _ e h=>by subst h;rw[oO] at e;cases e);have ID:KO (λx=>(o x).act) w v3:=Iz.trans kx (by intro x hx h;(try dsimp only at h);subst h;show TG.act _;(first|rw[oO]|rw[oC]);trivial);replace Ni:=JL.cell;replace Nl:=JL.frozen;replace Nt:=JL.size;replace WP:=(lA Qr);clear kx zx;go_wp2_with fail;go_loopw [6,7] (λt u wr=>∃(a r:List Int) (i:Int) (o1:aT) (K1:Int->List Int) (LK1:List (Int × ϗ)),u=ι ε i/\HI wr w t (a++[i])/\bM L i (i::r)/\a.length+r.length+1=xs.length/\aX S.K xs=(a++(aX K1 (i::r)).1,(aX K1 (i::r)).2)/\ah wr B #[.map (some A),.map (some O),.map (some C)] 216/\aA wr A LB/\aA wr O (dH leaf (ι ε q) LO)/\aA wr C LK1/\bw o1 wr LK1 K1/\(∀x,x<w.heap.size->o1 x=o x)/\KO (λx=>(o x).act) w wr) (λt _ _=>xs.length - lenOf t);case atStart=>
  obtain⟨r,rfl⟩:∃r,xs=leaf::r:=by
   cases xs with
   | nil=>exact ax rfl Kx
   | cons x r=>exact⟨r,by rw[show x=leaf from hp.1]⟩
  exact⟨[],r,leaf,o,S.K,LK,rfl,ae.one ρB rfl ID.size rfl,hp,by first|(simp;done)|(simp;omega),rfl,JL.below ρE JL.size,Qr.below ρE,TK.below ρE,TF.below ρE,VF.below ρE,λ_ _=>rfl,ID.step0 ρE⟩
 case round=>
  clear Ni Nl Nt WP Js JL Qr TK TF VF ID;obtain⟨a,r,i,o1,K1,LK1,rfl,G0,J9,IS,Le,NW,Qq,UW,SR,UV,N8,IB⟩:=hrel;obtain⟨-,d,hd,Yh,QT⟩:=id J9;have zw:=IB.size;obtain⟨y,lA0⟩:=lA2.out _ _ _ Qq hd Yh;obtain⟨p,Sv⟩:=Nq d.par;rw[Sv] at QT lA0;have oC1:=(N8 C Xc).trans oC;have oO1:=(N8 O YE).trans oO;have oB0:=oB;have oA0:=oA;have oO0:=oO;have oC0:=oC;clear hi oB oA oO oC;have oO:=oO1;have oC:=oC1;have JI:a.length<=1000:=ρa;obtain⟨oa,oc,rfl⟩:=G0.slice;have Sr:(a++[i]).length=a.length+1:=ρp;obtain⟨NV,JT⟩:=Nq (a++[i]);rw[JT] at G0 Sr ⊢;have QX:NV.length<=1001:=ρa;obtain⟨nx,MO⟩:=Nq NV.length;rw[MO] at G0 Sr QX ⊢;change Hid _ at Le IS;have J9:=ag J9;have QT:=ag QT;change Hid _ at hd JT Sv Sr MO;obtain⟨n,hn⟩:=Nq ((K1 p).length);have lC:=(am Tryz.underlying214 Θ SR p (z:=.map none) ρm).2;obtain⟨vv,hvv⟩:=Nq ((lk p LK1).getD (.map none));rw[hvv] at lC;have ll:∀ty,(Builtin.len_ #[213] ty #[vv]).run Ψ wr=.ok (ι ε n) wr:=by
   intro ty;rcases UV p with ⟨e1,e2⟩|⟨b,e1,e2,e3⟩
   ·rw[<- hvv,e1,<- hn,e2];exact kg (P:=Ψ) (T:=213) (K:=3) (E:=3) Tryz.underlying213 wr ty
   ·rw[<- hvv,e1,<- hn];exact(aS (P:=Ψ) (T:=213) (K:=3) (E:=3) Tryz.underlying213 e2 ty).trans (by rw[lG])
  have Ni:=NW.cell;have Nl:=NW.frozen;have Nt:=NW.size;have LY:p=0->r=[]:=λe=>by
   cases r with
   | nil=>rfl
   | cons x r=>obtain⟨-,d2,Li,_⟩:=QT.out;rw[e,h00] at Li;cases Li
  have PI:p≠0->∃r2,r=p::r2:=λe=>by
   cases r with
   | nil=>exact ax QT.out e
   | cons x r=>obtain⟨rfl,_⟩:=QT.out;exact⟨r,rfl⟩
  change Hid _ at LY PI;have nCw:C<wr:=ρa;by_cases h0:n=0
  ·subst h0;have hKp:K1 p=[]:=List.length_eq_zero_iff.1 hn;have PG:=@run_makeMap Ψ;obtain⟨v1,hput1,TE,kx,zx⟩:=bz Tryz.underlying214 Θ (SR.alloc (.map #[] 0)) p (.map (some wr));have M1:aA v1 wr []:=(aA.made wr).ko kx ρj;have lC1:=(am Tryz.underlying214 Θ TE p (z:=.map none) ρm).2;rw[fh,ZP rfl] at lC1;simp only[Option.getD_some] at lC1;obtain⟨v2,Yg,M2,Tx,zx2⟩:=bz Tryz.underlying213 Θ M1 i Ko;have sz1:v1.heap.size=wr+1:=by rw[zx];simp
   have sz2:v2.heap.size=wr+1:=by rw[zx2,sz1]
   have kk:KO (λx=>x=C) wr v2:=by refine⟨Tx.os.trans kx.os,Tx.tape.trans kx.tape,Tx.output.trans kx.output,by omega,λx hx hC=>?_⟩;rw[Tx.block x ρa (by show ¬x=_;omega),kx.block x ρJ hC,(MapKept.heap_alloc wr _).2 x hx]
   have kk1:KO (λx=>x=C) wr v1:=by refine⟨kx.os,kx.tape,kx.output,by omega,λx hx hC=>?_⟩;rw[kx.block x ρJ hC,(MapKept.heap_alloc wr _).2 x hx]
   have J':=NW.ko kk1 nBC;have Rr:=J'.r;have JU:=NW.ko kk nBC;have OU:=Qq.ko kk nAC;have Rt:=UW.ko kk (Ne.symm nCO);have Qu:=TE.ko Tx (by show ¬C=_;omega);have G2:=ae.ko G0 kk σI;have Iz:=IB.trans kk (by intro x hx h;subst h;show TG.act _;rw[oC0];trivial);have VE:bw (λx=>if x=wr.heap.size then .aki p else o1 x) v2 (dH p (.map (some wr)) LK1) (aw K1 p (dG i (K1 p))):=bw.set UV (N:=wr.heap.size) (λb q l hq hm ho=>⟨hm.ko kk (by intro e;subst e;rw[oC] at ho;cases ho),by show (if b=wr then _ else _)=_;rw[ZI (by have:=hm.size;omega)];exact ho⟩) (λq=>by rw[fh];split<;>rfl) (by rw[hKp,show lF (dG i [])=dH i Ko [] from rfl];exact M2) ρp;have Yd:∀x,x<w.heap.size->(λx=>if x=wr.heap.size then TG.aki p else o1 x) x=o x:=λx hx=>by show (if x=wr.heap.size then _ else _)=_;rw[ZI ρa];exact N8 x hx
   clear kx Tx zx zx2 kk G0 NW Qq UW SR UV TE M1 hvv hn;by_cases e0:p=0
   ·have OH:(p==0)=true:=by simpa using e0
    replace e0:=ag e0;go_wp2_with fail;have hr:=LY.out e0.out;subst hr;have LZ:(aX S.K xs).1=a++[i]:=by rw[Le.out];rfl
    have Uh:(aX S.K xs).2=aw K1 p (dG i (K1 p)):=by rw[Le.out,e0.out];rfl
    have NU:=(Yd B TC).trans oB0;have oA2:=(Yd A zA0).trans oA0;have oO2:=(Yd O YE).trans oO0;have oC2:=(Yd C Xc).trans oC0;go_ret2;refine⟨_,rfl,?_,(λx=>if x=wr.heap.size then TG.aki p else o1 x),⟨JU.below ρE JU.size,⟨LB,OU.below ρE,hA.out⟩,⟨_,Rt.below ρE,λj=>by rw[fh];show _=(if j=leaf then true else S.on j);split<;>simp[hO.out]⟩,⟨_,Qu.below ρE,by rw[Uh];exact VE.below ρE⟩,NU,oA2,oO2,oC2⟩,Yd,Iz.step0 ρE⟩;(first|rw[LZ,JT.out]|rw[JT.out]);exact ae.below G2 ρE
   ·have OH:(p==0)=false:=by simpa using e0
    obtain⟨r2,Nd⟩:=PI.out e0;subst Nd;have zk:=Iz.size;go_upto_region 17 with (fail);refine Zw (θ7 Iz JU OU Rt Qu VE G2) ?_;rintro v3 ⟨ID,JL,Qr,TK,TF,VF,G3⟩;replace Ni:=JL.cell;replace Nl:=JL.frozen;replace Nt:=JL.size;have zk:=ID.size;have J2:NV.length<=1000000:=by rw[MO.out];omega
    go_wp2_with (refine au Tryz.underlying45 bD rfl (λ_=>rfl) ρI ρf ρf rfl (.tmp 77) (.tmp 79) rfl w (ζ oa nx oc) NV p v3 #[ι ε p] rfl ρr ρr (G3.below ρE) ρB ρa ρJ ?_;intro o4 v4 G4 kx;replace kx:=kx.of_alloc;have Kj:=JL.ko kx (λh=>ae.ne_blk G3 JL ρf h);have A'4:=Qr.ko kx (ae.notown G3 zA0);have O'4:=TK.ko kx (ae.notown G3 YE);have C'4:=TF.ko kx (ae.notown G3 Xc);have KF4:=VF.ko kx (λx l p hm _=>ae.ne_map G3 hm);have IC:KO (λx=>(o x).act) w v4:=ID.trans kx (by intro y hy h;exact ax h (ae.notown G3 hy));have UT:=IC.size;replace Ni:=Kj.cell;replace Nl:=Kj.frozen;replace Nt:=Kj.size);go_roundw;case rel=>exact⟨a++[i],r2,p,_,_,_,rfl,by rw[JT.out];exact ae.below G4 ρE,QT.out,by have:=IS.out;simp at this ⊢;omega,by rw[Le.out,aX,ZP hKp];simp,Kj.below ρE Kj.size,A'4.below ρE,O'4.below ρE,C'4.below ρE,KF4.below ρE,Yd,IC.step0 ρE⟩
    case measure=>exact ηn
  ·rcases UV p with ⟨e1,e2⟩|⟨b,e1,e2,e3⟩
   ·exact ax (by rw[<- hn,e2];rfl) h0
   ·rw[hvv] at e1;subst e1;have hKp:K1 p≠[]:=λh=>h0 (by rw[<- hn,h];rfl);obtain⟨v2,Yg,M2,kk,zx2⟩:=bz Tryz.underlying213 Θ e2 i Ko;have nBb:B≠b:=aB NW e2;have nAb:A≠b:=by intro h;rw[<- h,N8 A zA0,oA0] at e3;cases e3
    have nOb:O≠b:=by intro h;rw[<- h,oO] at e3;cases e3
    have nCb:C≠b:=by intro h;rw[<- h,oC] at e3;cases e3
    have JU:=NW.ko kk nBb;have OU:=Qq.ko kk nAb;have Rt:=UW.ko kk nOb;have Qu:=SR.ko kk nCb;have G2:=ae.ko G0 kk (λx _ hx e=>by (try dsimp only at e);subst e;exact ae.ne_map G0 e2 hx);have Iz:=IB.trans kk (by intro x hx h;subst h;show TG.act _;rw[<- N8 x hx,e3];trivial);have VE:bw o1 v2 LK1 (aw K1 p (dG i (K1 p))):=bw.set UV (N:=b) κg (λq=>by by_cases h:q=p;(· rw[ZP h,h,hvv]);(· rw[ZI h])) (by rw[<- qd];exact M2) e3;have hd:=dt ((0:Int)<(n:Int));have hd0:((n:Int)==0)=false:=ρ7;clear kk zx2 G0 NW Qq UW SR UV e2 hn;go_wp2_with fail;have LZ:(aX S.K xs).1=a++[i]/\(aX S.K xs).2=aw K1 p (dG i (K1 p)):=by
     rw[Le.out];by_cases e0:p=0
     ·rw[LY.out e0,e0];exact⟨rfl,rfl⟩
     ·obtain⟨r2,Nd⟩:=PI.out e0;rw[Nd,aX,ZI hKp];exact⟨rfl,rfl⟩
    obtain⟨LZ,Uh⟩:=LZ;have NU:=(N8 B TC).trans oB0;have oA2:=(N8 A zA0).trans oA0;have oO2:=(N8 O YE).trans oO0;have oC2:=(N8 C Xc).trans oC0;have Yd:=N8;go_ret2;refine⟨_,rfl,?_,o1,⟨JU.below ρE JU.size,⟨LB,OU.below ρE,hA.out⟩,⟨_,Rt.below ρE,λj=>by rw[fh];show _=(if j=leaf then true else S.on j);split<;>simp[hO.out]⟩,⟨_,Qu.below ρE,by rw[Uh];exact VE.below ρE⟩,NU,oA2,oO2,oC2⟩,Yd,Iz.step0 ρE⟩;(first|rw[LZ,JT.out]|rw[JT.out]);exact ae.below G2 ρE
theorem uz (S:AS)(B A O C:Nat)(o:aT)(L:List CD)(leaf:Int)(w:ϖ)(H:cK o w B A O C L S)(hc:ew L leaf=none):Calls Ψ 222 #[B,ι ε leaf] w λe w'=>e=ϰ (χ #[Kn,ι ε 6])/\w=w':=by
 obtain⟨B',⟨LB,A',hA⟩,⟨LO,O',hO⟩,⟨LK,C',hK⟩,oB,oA,oO,oC⟩:=H;have Rr:=B'.r;have lA:=(am Tryz.underlying212 Θ A' leaf (z:=φ #[Kz,Kz]) ρm).2;rw[hA leaf,hc] at lA;simp only[Option.getD_none] at lA;clear hA hO hK B' A' O' C' oA oB oO oC hc;have pf0:=λa b v=>(vk a b v).1;have pf1:=λa b v=>(vk a b v).2;go_in;go_wp2;go_ret2;exact⟨rfl,rfl⟩
theorem Ci (S:AS)(B A O C:Nat)(o:aT)(L:List CD)(leaf:Int)(xs:List Int)(c:CD)(w:ϖ)(H:cK o w B A O C L S)(hc:fc L leaf=some c)(hs:dz c=true)(hl:c.lf=true)(hi:S.is leaf=true)(hp:bM L leaf xs)(h00:fc L 0=none)(Kx:xs≠[])(hx:xs.length<=1000)(Lx:xs.Nodup)(hK:∀y ∈ 0::xs.tail,S.K y≠[]):Calls Ψ 222 #[B,ι ε leaf] w λe w'=>∃v,e=ϰ (χ #[v,Kz])/\HI w' w v (aH S.K xs).1/\cK o w' B A O C L ⟨aw S.on leaf false,(aH S.K xs).2⟩/\KO (λx=>(o x).act) w w':=by
 have H0:=H;obtain⟨B',⟨LB,A',hA⟩,⟨LO,O',hO⟩,⟨LK,C',KF⟩,oB,oA,oO,oC⟩:=H;have nBO:B≠O:=aB B' O';have nBC:B≠C:=aB B' C';have nAO:A≠O:=by intro h;rw[h,oO] at oA;cases oA
 have nAC:A≠C:=by intro h;rw[h,oC] at oA;cases oA
 have nCO:C≠O:=by intro h;rw[h,oO] at oC;cases oC
 have TC:=B'.size;have zA0:=A'.size;have YE:=O'.size;have Xc:=C'.size;obtain⟨q,hq⟩:=Nq c.par;have lA:∀{v:ϖ},aA v A LB->(Instr.lookup 212 (.map (some A)) (ι ε leaf) false).run Ψ v=.ok (φ #[ι ε q,Ko]) v:=fun {v} h=>ηe
 have lA2:∀(v:ϖ) (i:Int) (d:CD),aA v A LB->fc L i=some d->dz d=true->∃y,(Instr.lookup 212 (.map (some A)) (ι ε i) false).run Ψ v=.ok (φ #[ι ε d.par,ι ε y]) v:=λv i d h hd Yh=>ηf
 have hA:=ag hA;have hO:=ag hO;have lA2:=ag lA2;have pf0:=λa b v=>(vk a b v).1;have pf1:=λa b v=>(vk a b v).2;have lA0:=lA A';have Ni:=B'.cell;have Nl:=B'.frozen;have Nt:=B'.size;replace hi:=ag hi;obtain⟨v3,Js,TK,kx,zx⟩:=gI Tryz.underlying213 Θ O' leaf;go_in;go_wp2_with (go_at_call 124;refine(wg S B A O C o L leaf w H0).mono ?_;rintro e v ⟨rfl,rfl⟩;rw[hi.out]);have IB:KO (λ_=>False) w w:=KO.refl _ _;have ID:KO (λx=>(o x).act) w v3:=kx.mono (by intro x hx h;(try dsimp only at h);subst h;show TG.act _;rw[oO];trivial);have JL:=B'.ko kx nBO;have Qr:=A'.ko kx nAO;have TF:=C'.ko kx nCO;have VF:=KF.ko kx (λx l p _ e h=>by subst h;rw[oO] at e;cases e);clear kx IB;go_loopw [6,7] (λt u wr=>∃(a r:List Int) (i:Int) (K1:Int->List Int),u=ι ε i/\HI wr w t (a++[i])/\bM L i (i::r)/\xs=a++i::r/\(∀y ∈ 0::r,K1 y=S.K y)/\aH S.K xs=(a++(aH K1 (i::r)).1,(aH K1 (i::r)).2)/\ah wr B #[.map (some A),.map (some O),.map (some C)] 216/\aA wr A LB/\aA wr O (dF leaf LO)/\aA wr C LK/\bw o wr LK K1/\KO (λx=>(o x).act) w wr) (λt _ _=>xs.length - lenOf t);case atStart=>
  obtain⟨r,rfl⟩:∃r,xs=leaf::r:=by
   cases xs with
   | nil=>exact ax rfl Kx
   | cons x r=>exact⟨r,by rw[show x=leaf from hp.1]⟩
  exact⟨[],r,leaf,S.K,rfl,ae.one ρB rfl (by first|exact ID.size|omega) rfl,hp,rfl,λ_ _=>rfl,rfl,JL.below ρE JL.size,Qr.below ρE,TK.below ρE,TF.below ρE,VF.below ρE,ID.step0 ρE⟩
 case round=>
  clear Ni Nl Nt lA0 Js JL Qr TK TF VF ID;obtain⟨a,r,i,K1,rfl,G0,J9,IF,hag,Le,NW,Qq,UW,SR,UV,IB⟩:=hrel;obtain⟨-,d,hd,Yh,QT⟩:=id J9;have zw:=IB.size;obtain⟨y,lA0⟩:=lA2.out _ _ _ Qq hd Yh;obtain⟨p,Sv⟩:=Nq d.par;rw[Sv] at QT lA0;have IS:a.length+r.length+1=xs.length:=by rw[IF];simp;omega
  have JI:a.length<=1000:=ρa;have LY:p=0->r=[]:=λe=>by
   cases r with
   | nil=>rfl
   | cons x r=>obtain⟨-,d2,Li,_⟩:=QT;rw[e,h00] at Li;cases Li
  have PI:p≠0->∃r2,r=p::r2:=λe=>by
   cases r with
   | nil=>exact ax QT e
   | cons x r=>obtain⟨rfl,_⟩:=QT;exact⟨r,rfl⟩
  have hpm:p ∈ 0::r:=by
   by_cases e:p=0
   ·rw[e];simp
   ·obtain⟨r2,e2⟩:=PI e;rw[e2];simp
  have hKp:K1 p≠[]:=by rw[hag p hpm];exact hK p (by
   rcases ZC.1 hpm with e|e
   ·rw[e];simp
   ·refine rt _ ?_;rw[IF];cases a with
    | nil=>exact e
    | cons b a=>simp[e])
  obtain⟨oa,oc,rfl⟩:=G0.slice;have Sr:(a++[i]).length=a.length+1:=ρp;obtain⟨NV,JT⟩:=Nq (a++[i]);rw[JT] at G0 Sr ⊢;have QX:NV.length<=1001:=ρa;obtain⟨nx,MO⟩:=Nq NV.length;rw[MO] at G0 Sr QX ⊢;change Hid _ at Le IS;have J9:=ag J9;have QT:=ag QT;change Hid _ at hd JT Sv Sr MO IF hag LY PI hpm;have lC:=(am Tryz.underlying214 Θ SR p (z:=.map none) ρm).2;rcases UV p with ⟨e1,e2⟩|⟨b,e1,e2,e3⟩
  ·exact ax e2 hKp
  rw[e1] at lC;obtain⟨v2,Yg,M2,kk,zx2⟩:=gI Tryz.underlying213 Θ e2 i;rw[wZ] at M2;have nBb:B≠b:=aB NW e2;have nAb:A≠b:=by intro h;rw[<- h,oA] at e3;cases e3
  have nOb:O≠b:=by intro h;rw[<- h,oO] at e3;cases e3
  have nCb:C≠b:=by intro h;rw[<- h,oC] at e3;cases e3
  have Ni:=NW.cell;have Nl:=NW.frozen;have Nt:=NW.size;have JU:=NW.ko kk nBb;have OU:=Qq.ko kk nAb;have Rt:=UW.ko kk nOb;have Qu:=SR.ko kk nCb;have G2:=ae.ko G0 kk (λx _ hx e=>by (try dsimp only at e);subst e;exact ae.ne_map G0 e2 hx);have Iz:=IB.trans kk (by intro x hx h;subst h;show TG.act _;rw[e3];trivial);have VE:bw o v2 LK (aw K1 p (dy i (K1 p))):=bw.set UV (N:=b) κg (λq=>by by_cases h:q=p;(· rw[ZP h,h,e1]);(· rw[ZI h])) M2 e3;have lC2:=(am Tryz.underlying214 Θ Qu p (z:=.map none) ρm).2;rw[e1] at lC2;have Rr:=JU.r;obtain⟨n,hn⟩:=Nq ((dy i (K1 p)).length);have ll:∀ty,(Builtin.len_ #[213] ty #[.map (some b)]).run Ψ v2=.ok (ι ε n) v2:=λty=>(aS (P:=Ψ) (T:=213) (K:=3) (E:=3) Tryz.underlying213 M2 ty).trans (by rw[lG,<- hn];rfl);replace hn:=ag hn;clear kk zx2 G0 NW Qq UW SR UV e2 M2 IB;have fin:(n≠0\/p=0)->(aH S.K xs).1=a++[i]/\(aH S.K xs).2=aw K1 p (dy i (K1 p)):=λh=>by
   rw[Le.out];by_cases e0:p=0
   ·rw[LY.out e0,e0];exact⟨rfl,rfl⟩
   ·obtain⟨r2,Nd⟩:=PI.out e0;rw[Nd,aH,ZI (λh2=>by have:=hn.out;rw[h2] at this;simp at this;omega)];exact⟨rfl,rfl⟩
  replace fin:=ag fin;by_cases h0:n=0
  rotate_left
  ·have hd:=dt ((0:Int)<(n:Int));go_wp2_with fail;obtain⟨LZ,Uh⟩:=fin.out (.inl h0);exact ξC
  subst h0;by_cases e0:p=0
  ·have OH:(p==0)=true:=by simpa using e0
   obtain⟨LZ,Uh⟩:=fin.out (.inr e0);change Hid _ at LZ Uh e0;go_wp2_with fail;replace LZ:=LZ.out;replace Uh:=Uh.out;exact ξC
  have OH:(p==0)=false:=by simpa using e0
  obtain⟨r2,Nd⟩:=PI.out e0;subst Nd;have IX:∀y ∈ 0::r2,y≠p:=λy hy e=>by
   subst e;rcases ZC.1 hy with e|e
   ·exact e0 e
   ·have:=Lx;rw[IF.out] at this;have:=(List.nodup_append.1 this).2.1;rw[ZD,ZD] at this;exact this.2.1 e
  replace IX:=ag IX;have zk:=Iz.size;go_upto_region 12 with (fail);refine Zw (θ7 Iz JU OU Rt Qu VE G2) ?_;rintro v3 ⟨ID,JL,Qr,TK,TF,VF,G3⟩;replace Ni:=JL.cell;replace Nl:=JL.frozen;replace Nt:=JL.size;have zk:=ID.size;have J2:NV.length<=1000000:=by rw[MO.out];omega
  go_wp2_with (refine au Tryz.underlying45 bD rfl (λ_=>rfl) ρI ρf ρf rfl (.tmp 62) (.tmp 64) rfl w (ζ oa nx oc) NV p v3 #[ι ε p] rfl ρr ρr (G3.below ρE) ρB ρa ρJ ?_;intro o4 v4 G4 kx;replace kx:=kx.of_alloc;have Kj:=JL.ko kx (λh=>ae.ne_blk G3 JL ρf h);have A'4:=Qr.ko kx (ae.notown G3 zA0);have O'4:=TK.ko kx (ae.notown G3 YE);have C'4:=TF.ko kx (ae.notown G3 Xc);have KF4:=VF.ko kx (λx l p hm _=>ae.ne_map G3 hm);have IC:KO (λx=>(o x).act) w v4:=ID.trans kx (by intro y hy h;exact ax h (ae.notown G3 hy));have UT:=IC.size;replace Ni:=Kj.cell;replace Nl:=Kj.frozen;replace Nt:=Kj.size);go_roundw;case rel=>exact⟨a++[i],r2,p,_,rfl,by rw[JT.out];exact ae.below G4 ρE,QT.out,by rw[IF.out];simp,λy hy=>by rw[aw,ZI (IX.out y hy)];exact hag.out y (by simp at hy ⊢;rcases hy with h|h<;>simp[h]),by rw[Le.out,aH,ZP (List.length_eq_zero_iff.1 hn.out)];simp,Kj.below ρE Kj.size,A'4.below ρE,O'4.below ρE,C'4.below ρE,KF4.below ρE,IC.step0 ρE⟩
  case measure=>exact ηn
structure K4 where
 (a b c d:Int)
abbrev kv (k:K4):ϗ:=φ #[ι ω k.a,ι ω k.b,ι ω k.c,ι ω k.d]
structure FW where
 (k:K4)
 (p:Int)
abbrev fv (f:FW):ϗ:=ι ε f.p
theorem By {x y:K4}:x=y↔x.a=y.a/\x.b=y.b/\x.c=y.c/\x.d=y.d:=by cases x;cases y;simp
instance:DecidableEq K4:=λx y=>decidable_of_iff _ By.symm
theorem yl (k:Nat)(w:ϖ)(x y:Int):(Op.equalIn (k+1) 46 (ι ω x) (ι ω y)).run Ψ w=.ok (x==y) w:=by simp[Op.equalIn,Tryz.underlying46,go_sem]
theorem io (xs:Array ϗ)(II:Nat)(v:ϗ)(w:ϖ)(h:xs[II]?=some v):(part 46 xs II).run Ψ w=.ok v w:=
 run_part_plain (P:=Ψ) w ρh h
theorem wD (d:Nat)(k j:K4)(w:ϖ):(Op.equalIn (d+2) 48 (kv k) (kv j)).run Ψ w=.ok (decide (k=j)) w:=by
 have hc:Ψ.cellsOf 46=1:=ρh;obtain⟨i16,hi16⟩:=info_of_underlying Tryz.underlying46;rw[run_equalIn_array (P:=Ψ) w (d+1) _ _ Tryz.underlying48 hi16,hc];have p0:∀(x0 x1 x2 x3:Int) (v:ϖ),(part 46 #[ι ω x0,ι ω x1,ι ω x2,ι ω x3] 0).run Ψ v=.ok (ι ω x0) v:=λ_ _ _ _ v=>io _ _ _ v rfl;have p1:∀(x0 x1 x2 x3:Int) (v:ϖ),(part 46 #[ι ω x0,ι ω x1,ι ω x2,ι ω x3] 1).run Ψ v=.ok (ι ω x1) v:=λ_ _ _ _ v=>io _ _ _ v rfl;have p2:∀(x0 x1 x2 x3:Int) (v:ϖ),(part 46 #[ι ω x0,ι ω x1,ι ω x2,ι ω x3] 2).run Ψ v=.ok (ι ω x2) v:=λ_ _ _ _ v=>io _ _ _ v rfl;have p3:∀(x0 x1 x2 x3:Int) (v:ϖ),(part 46 #[ι ω x0,ι ω x1,ι ω x2,ι ω x3] 3).run Ψ v=.ok (ι ω x3) v:=λ_ _ _ _ v=>io _ _ _ v rfl;have e:=λv x y=>yl d v x y;by_cases ha:k.a=j.a<;>by_cases hb:k.b=j.b<;>by_cases Tq:k.c=j.c<;>by_cases hd:k.d=j.d<;>
  simp[Op.eqItems,List.range,List.range.loop,Sem.run_bind,Result.andThen,p0,p1,p2,p3,e,By,ha,hb,Tq,hd]
theorem HC (k j:K4)(w:ϖ):(Op.equal 48 (kv k) (kv j)).run Ψ w=.ok (decide (k=j)) w:=by show (Op.equalIn 10000 _ _ _).run Ψ w=_;exact wD 9998 k j w
theorem He (em:Bool)(k:K4)(w:ϖ):(Instr.checkKey em 10000 48 (kv k)).run Ψ w=.ok () w:=by
 have hs:∀v,(sizeOf 46).run Ψ v=.ok 1 v:=λ_=>by kernel_rfl
 have p0:∀(v:ϖ),(part 46 #[ι ω k.a,ι ω k.b,ι ω k.c,ι ω k.d] 0).run Ψ v=.ok (ι ω k.a) v:=λv=>io _ _ _ v rfl;have p1:∀(v:ϖ),(part 46 #[ι ω k.a,ι ω k.b,ι ω k.c,ι ω k.d] 1).run Ψ v=.ok (ι ω k.b) v:=λv=>io _ _ _ v rfl;have p2:∀(v:ϖ),(part 46 #[ι ω k.a,ι ω k.b,ι ω k.c,ι ω k.d] 2).run Ψ v=.ok (ι ω k.c) v:=λv=>io _ _ _ v rfl;have p3:∀(v:ϖ),(part 46 #[ι ω k.a,ι ω k.b,ι ω k.c,ι ω k.d] 3).run Ψ v=.ok (ι ω k.d) v:=λv=>io _ _ _ v rfl;have hk:∀(x:Int) (v:ϖ),(Instr.checkKey em 9999 46 (ι ω x)).run Ψ v=.ok () v:=λx v=>MapKept.run_checkKey (P:=Ψ) (w:=v) (k:=ι ω x) Tryz.underlying46 rfl em 9998;show (Instr.checkKey em (9999+1) _ _).run Ψ w=_;unfold Instr.checkKey;simp only[Sem.run_bind,run_underlying Tryz.underlying48,Result.andThen];simp only[Std.Legacy.Range.forIn_eq_forIn_range',Std.Legacy.Range.size,Nat.sub_zero,Nat.add_one_sub_one,Nat.div_one];simp[List.range',List.forIn_cons,Sem.run_bind,Result.andThen,hs,p0,p1,p2,p3,hk]
def bN:List FW->K4->Nat->Option (Nat × FW)
 | [],_,_=>none
 | f::r,k,i=>if k=f.k then some (i,f) else bN r k (i+1)
def lQ (es:List MapEntry)(L:List FW):Prop:=es.map (λe=>(e.key,e.val))=L.map (λf=>(kv f.k,fv f))
theorem lN (k:K4):∀(L:List FW)(es:List MapEntry)(i:Nat)(w:ϖ),lQ es L->(Instr.findAsking 48 (kv k) es i).run Ψ w=.ok ((bN L k i).map λp=>(p.1,fv p.2)) w
 | [],es,i,w,h=>by
  have:es=[]:=by unfold lQ at h;simpa using h
  subst this;simp[Instr.findAsking,bN]
 | f::L,es,i,w,h=>by
  unfold lQ at h;cases es with
  | nil=>simp at h
  | cons e es=>
   simp only[gY,List.cons.injEq,Prod.mk.injEq] at h;obtain⟨⟨h1,h2⟩,h3⟩:=h;have ih:=lN k L es (i+1) w h3;unfold Instr.findAsking bN;rw[h1];simp only[Sem.run_bind,HC,Result.andThen];by_cases he:k=f.k
   ·simp[he,h2]
   ·simp[he,ih]
theorem qs (k:K4)(L:List FW)(es:List MapEntry)(w:ϖ)(h:lQ es L):(Instr.findKey 48 (kv k) es).run Ψ w=.ok ((bN L k 0).map λp=>(p.1,fv p.2)) w:=by
 have ha:=lN k L es 0 w h;unfold Instr.findKey;simp only[Sem.run_bind,run_underlying Tryz.underlying48,Result.andThen];cases es with
 | nil=>
  have:L=[]:=by unfold lQ at h;cases L<;>simp_all
  subst this;simp[Instr.findNow,bN]
 | cons e es=>
  have:Instr.findNow (.array 4 46) (kv k) (e::es) 0=none:=by simp[Instr.findNow,Instr.sameNow]
  rw[this];exact ha
def bB (w:ϖ)(M:Nat)(L:List FW):Prop:=∃(es:Array MapEntry)(IU:Nat),w.heap[M]?=some (.map es IU)/\lQ es.toList L
theorem qt {w:ϖ} {M:Nat} {L:List FW} (h:bB w M L)(k:K4):(Instr.lookup 162 (.map (some M)) (kv k) true).run Ψ w=.ok (χ #[match bN L k 0 with|some p=>fv p.2|none=>fv ⟨⟨0,0,0,0⟩,0⟩,β (bN L k 0).isSome]) w:=by
 obtain⟨es,IU,hb,hs⟩:=h;have hz:∀v,(zeroValue 3).run Ψ v=.ok (fv ⟨⟨0,0,0,0⟩,0⟩) v:=λ_=>by kernel_rfl
 unfold Instr.lookup;simp only[Sem.run_bind,run_underlying Tryz.underlying162,Result.andThen,MapKept.run_getObj_map hb,Sem.run_pure,He,qs k L es.toList w hs];cases hf:bN L k 0 with
 | none=>simp[hz,Result.andThen]
 | some p=>simp[Result.andThen]
theorem xN {w:ϖ} {M:Nat} {L:List FW} (h:bB w M L)(k:K4)(f:FW)(hk:f.k=k)(hn:bN L k 0=none):∃w',(Instr.mapUpdate 162 (.map (some M)) (kv k) (fv f)).run Ψ w=.ok () w'/\bB w' M (L++[f])/\(∀b,b≠M->w'.heap[b]?=w.heap[b]?)/\w'.heap.size=w/\Below M w w':=by
 obtain⟨es,IU,hb,hs⟩:=h;refine⟨{w with heap:=w.heap.setIfInBounds M (.map (es.push {key:=kv k,val:=fv f,born:=IU}) (IU+1))},by simp[Instr.mapUpdate,run_underlying Tryz.underlying162,MapKept.run_getObj_map hb,He,qs k L es.toList w hs,hn,MapKept.run_setObj_map _ hb,Result.andThen],?_,?_,?_,?_⟩
 ·refine⟨_,_,(MapKept.heap_set hb).1,?_⟩;unfold lQ at*;simp[hs,hk]
 ·exact(MapKept.heap_set hb).2
 ·simp
 ·exact⟨rfl,rfl,rfl,by simp,λb hbM=>(MapKept.heap_set hb).2 b ρa⟩
end Go.Proofs.YtfdlemkplejdnaaGreat
