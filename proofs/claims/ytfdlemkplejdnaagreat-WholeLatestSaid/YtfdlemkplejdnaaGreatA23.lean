/- WholeLatest, part 23. Conditions: none. -/
import Derived.Test.YtfdlemkplejdnaaGreatA20
import Derived.Test.YtfdlemkplejdnaaGreatA21
import Derived.ArgAppend
import Derived.Laws.IdiomCopy
namespace Go.Proofs.YtfdlemkplejdnaaGreat
open Go.RowKit Go.Sort
open Value renaming int->ι,pointer->ψ,slice->ζ,tuple->χ,agg->φ,map->μ,bool->β
open IntKind renaming u64->υ,i64->ε,u16->ω
open Ending renaming returned->ϰ
open Go.Proofs.Tryz renaming prog->Ψ,underlying3->Θ,underlying147->Δ,underlying152->Γ,underlying202->Φ,underlying39->Ξ,underlying207->Ω
open Go renaming World->ϖ,Value->ϗ
set_option linter.unusedVariables false
set_option linter.unusedSimpArgs false
set_option maxHeartbeats 8000000
set_option maxRecDepth 100000
section
variable {α:Type} {n:Nat} {enc:α->List ϗ}
def aK (n:Nat)(enc:α->List ϗ)(w:ϖ)(B:Nat)(v:ϗ)(L:List α):Prop:=∃a Kt,v=ζ a L.length Kt/\L.length<=maxLen/\B<=w/\(a=none->Kt=0/\L=[])/\(L≠[]->∃g off,a=some ⟨g,off,none⟩/\g<B/\AV n enc w g off L)
theorem aK.belowK {w v:ϖ} {B K:Nat} {x:ϗ} {L:List α} (h:aK n enc w B x L)(k:Below K w v)(hK:B<=K):aK n enc v B x L:=by obtain⟨a,Kt,h1,h2,h3,h5,h4⟩:=h;refine⟨a,Kt,h1,h2,qK h3 k.size,h5,λhn=>?_⟩;obtain⟨g,off,e,hg,MF⟩:=h4 hn;exact⟨g,off,e,hg,MF.below k ρa⟩
theorem aK.below {w v:ϖ} {B:Nat} {x:ϗ} {L:List α} (h:aK n enc w B x L)(k:Below w w v):aK n enc v B x L:=h.belowK k (by obtain⟨_,_,_,_,h3,_⟩:=h;exact h3)
instance {α:Type} {n} {enc:α->List ϗ} {w B x} {L:List α}:Mv (aK n enc w B x L) w (λv'=>aK n enc v' B x L):=⟨λk h=>aK.below h k⟩
theorem aK.ko {w v:ϖ} {B:Nat} {x:ϗ} {L:List α} {F:Nat->Prop} (h:aK n enc w B x L)(k:KO F w v)(hF:∀y,y<B->¬F y):aK n enc v B x L:=by
 have h3:B<=w:=by obtain⟨_,_,_,_,h3,_⟩:=h;exact h3
 exact aK.belowK h (k.below h3 hF) (qR _)
theorem aK.slice {w:ϖ} {B:Nat} {x:ϗ} {L:List α} (h:aK n enc w B x L):∃a Kt,x=ζ a L.length Kt/\L.length<=maxLen:=by obtain⟨a,Kt,h1,h2,_⟩:=h;exact⟨a,Kt,h1,h2⟩
theorem aK.nil (w:ϖ):aK n enc w 0 Kn []:=⟨none,0,rfl,by simp[maxLen],Nat.zero_le _,λ_=>⟨rfl,rfl⟩,λh=>ax rfl h⟩
theorem aK.at {w:ϖ} {B:Nat} {a:Option Addr} {m Kt:Nat} {L:List α} (h:aK n enc w B (ζ a m Kt) L) {i:Nat} {x:α} (hi:L[i]?=some x):∃g off,a=some ⟨g,off,none⟩/\g<B/\w.rangeAt g (off+i*n) (enc x):=by obtain⟨a',PF,h1,h2,h3,_,h4⟩:=h;have e:=(qV h1).1;subst e;obtain⟨g,off,e,hg,MF⟩:=h4 (λe=>by rw[e] at hi;simp at hi);exact⟨g,off,e,hg,λj u hj=>MF i x hi j u hj⟩
theorem aK.rng {w:ϖ} {B g off m Kt:Nat} {L:List α} (h:aK n enc w B (ζ (some ⟨g,off,none⟩) m Kt) L) {i:Nat} {x:α} (hi:L[i]?=some x):w.rangeAt g (off+i*n) (enc x):=by obtain⟨g',off',e,_,h2⟩:=h.at hi;cases e;exact h2
theorem aK.cell {w:ϖ} {B g off m Kt:Nat} {L:List α} (h:aK n enc w B (ζ (some ⟨g,off,none⟩) m Kt) L) {i:Nat} {x:α} (hi:L[i]?=some x)(j:Nat) {u:ϗ} (hu:(enc x)[j]?=some u):w.cell? ⟨g,off+i*n+j,none⟩=some u:=h.rng hi j u hu
theorem aK.some {w:ϖ} {B m Kt:Nat} {a:Option Addr} {L:List α} (h:aK n enc w B (ζ a m Kt) L)(KI:L≠[]):∃g off,a=some ⟨g,off,none⟩:=by obtain⟨a',PF,h1,_,_,_,h4⟩:=h;obtain⟨g,off,e,_,_⟩:=h4 KI;exact⟨g,off,by rw[(qV h1).1,e]⟩
theorem ae.rd {e:TypeId} {w:ϖ} {base:Nat} {v:ϗ} {L:List α} (h:ae e n enc w base v L)(hn:∀x,(enc x).length=n):aK n enc w w v L:=by
 obtain⟨a,Kt,g,h1,h2,h3,h4,h5⟩:=h.at hn;obtain⟨_,hh⟩:=h;have hm:L.length<=maxLen/\(a=none->Kt=0/\L=[]):=by
  rcases hh with ⟨hv,h0⟩|⟨g',PF,cur,hv,_,_,hc,hm,_⟩
  ·rw[h0];refine⟨Nat.zero_le _,λ_=>?_⟩;rw[h1] at hv;exact⟨(qV hv).2.2,List.length_eq_zero_iff.1 h0⟩
  ·refine⟨by omega,λha=>?_⟩;rw[h1,ha] at hv;exact ax (qV hv).1 ρp
 exact⟨a,Kt,h1,hm.1,qR _,hm.2,λKI=>⟨g,0,h3 KI,h4 KI,h5⟩⟩
theorem ae.zero {e:TypeId} {w:ϖ} {base g:Nat} (h:ah w g #[] e)(hb:base<=g):ae e n enc w base (ζ g 0 0) []:=
 ⟨by simp,.inr ⟨g,0,#[],rfl,hb,h,qR _,by unfold maxLen;omega,by simp,by simp⟩⟩
end
open Go.Lib in
theorem kN {α:Type} {e:TypeId} {n:Nat} {enc:α->List ϗ} {st:TypeId} {by_:Nat} {z:ϗ} (hu:Ψ.underlying st=some (.slice e))(Qv:(Ψ.info? e).map (λi=>(i.zero,i.size,i.bytes))=some (some z,n,by_))(hz:z.cells.size=n)(hn:∀x,(enc x).length=n)(h1:∀x,∀u ∈ enc x,u.oneCell'=true)(LQ:0<n)(YK:by_<=1000)
  {w:ϖ} {Ki:Array Oper} {rest:List Oper} {o:Oper} {a:Act} {Q:Exit->Act->ϖ->Prop} (Ns:o.guard=none) (sl x:Operand)
  (ho:o.op=.call {callee:=.builtin .append,args:=#[sl,x],argTypes:=#[st,st]})
  (base B:Nat) (v y:ϗ) (s L:List α) (hs:a.eval sl=v) (hx:a.eval x=y) (h:ae e n enc w base v s) (hR:aK n enc w B y L) (MH:s.length+L.length<=1000000) (NQ:base<=w)
  (hk:∀v' w',ae e n enc w' base v' (s++L)->KO (λx=>some x=v.ownBlock) w w'->wpList Ψ Ki Q rest (a.put o.dst v') w'):wpList Ψ Ki Q (o::rest) a w:=by
 refine wpList_plain Ns λK hK=>?_;obtain⟨i,hi,q⟩:=Option.map_eq_some_iff.1 Qv;simp only[Prod.mk.injEq] at q;obtain⟨ya,Kt,rfl,hm,hB,SF,MF⟩:=hR;cases ya with
 | none=>
  obtain⟨rfl,rfl⟩:=SF rfl;have hr:(Builtin.append_ #[st,st] o.type #[v,Kn]).run Ψ w=.ok v w:=by
   rcases h.2 with ⟨rfl,_⟩|⟨g,Kt,cur,rfl,hg,hh,hc,hm,K6,ht⟩
   ·simp[Builtin.append_,run_underlying hu,Result.andThen,go_sem,sizeOf,typeInfo,hi]
   ·have:s.length+0<=Kt:=by omega
    simp[Builtin.append_,run_underlying hu,Result.andThen,go_sem,sizeOf,typeInfo,hi,hc]
  unfold Oper.wp execOp;simp only[ho,resolve,invoke,builtin,Sem.run_bind,Sem.run_pure,Result.andThen_ok,List.map_toArray,eJ,List.map_nil,hs,hx,List.length_nil,hr];exact hK _ _ (hk _ _ (by rw[qA];exact h) (KO.refl _ _))
 | some ad=>
  obtain⟨v',w',hr,h2,h3,_⟩:=run_append_own_at (P:=Ψ) w base st o.type e i z n by_ hu hi q.1 q.2.1 q.2.2 hz LQ v s.length (s.flatMap enc) h ad L.length Kt (L.flatMap enc) (gf hn L) (λj u hj=>by
   have KI:L≠[]:=λe=>by rw[e] at hj;simp at hj
   obtain⟨g,off,e,hg,hA⟩:=MF KI;cases e
   rw[Addr.add_mid];exact AV.flat hn LQ hA j u hj) σI σX κa NQ
  refine δc ?_;refine hK _ _ (hk v' w' ?_ ⟨h3.os,h3.tape,h3.output,h3.size,λk hk KI=>h3.block k hk KI⟩);unfold ae;rw[qL,List.flatMap_append];exact h2
theorem rN {P:Program} {Ki:Array Oper} {rest:List Oper} {op:Oper} {a:Act} {v:ϖ} {Q:Act->Prop} (ty:TypeId)(x:Operand)(g o:Nat)(cs:List ϗ)(d:TypeDesc)
  (ho:op.op=.load ty x) (hw:Region.wanted op (yielded Ki a.tmps)=true) (hx:a.eval x=ψ (some ⟨g,o,none⟩)) (hA:∀w',Below v v w'->w'.rangeAt g o cs) (hu:P.underlying ty=some d) (hd:d.isRow=true) (hi:(P.info? ty).map (·.size)=some cs.length)
  (h:wpQuiet P Ki (λw'=>∃p:Regrown,w'=grow (redrawn v p.d) p.os) Q rest (a.put op.dst (φ cs.toArray))):wpQuiet P Ki (λw'=>∃p:Regrown,w'=grow (redrawn v p.d) p.os) Q (op::rest) a:=by
 refine wpQuiet_step λK hK=>?_;rw[qP hw];refine⟨φ cs.toArray,λw' Pk=>?_,hK _ h⟩;obtain⟨p,rfl⟩:=Pk;have hl:=run_loadVar_mid (P:=P) (grow (redrawn v p.d) p.os) g o ty cs d (hA _ (qW _ _ _)) hu hd hi;unfold Oper.quietAt execOp;simp only[ho,hx,Instr.loadAt,Instr.sureAddr,Sem.run_bind,Sem.run_pure,Result.andThen_ok,hl,Oper.quietUpon];exact⟨trivial,by simp⟩
abbrev FF (u:ϗ):Prop:=∃k:Int,u=ι υ k
def QS (w:ϖ)(fp:Nat->Prop)(N:Nat)(v:ϗ):Prop:=v=Kn\/∃(g off n Kt:Nat)(cs:Array ϗ),v=ζ (some ⟨g,off,none⟩) n Kt/\ah w g cs 39/\off+Kt<=cs.size/\n<=Kt/\n<=N/\Kt<=maxLen/\(∀(i:Nat) u,cs[i]?=some u->FF u)/\fp g
theorem QS.mono {w w':ϖ} {fp Oj:Nat->Prop} {N N':Nat} {v:ϗ} (h:QS w fp N v)(hN:N<=N')(hf:∀x,fp x->Oj x)(hb:∀g cs,fp g->ah w g cs 39->(∀(i:Nat) u,cs[i]?=some u->FF u)->∃cs',ah w' g cs' 39/\cs.size<=cs'.size/\∀(i:Nat) u,cs'[i]?=some u->FF u):QS w' Oj N' v:=by
 rcases h with h|⟨g,off,n,Kt,cs,e,h1,h2,h3,h4,h5,h6,h7⟩
 ·exact .inl h
 ·obtain⟨cs',k1,k2,k3⟩:=hb g cs h7 h1 h6;exact .inr ⟨g,off,n,Kt,cs',e,k1,by omega,h3,by omega,h5,k3,hf _ h7⟩
theorem QS.of_ko {w w':ϖ} {fp Oj F:Nat->Prop} {N N':Nat} {v:ϗ} (h:QS w fp N v)(hN:N<=N')(hf:∀x,fp x->Oj x)(k:KO F w w')(hF:∀g cs,fp g->ah w g cs 39->¬F g):QS w' Oj N' v:=
 h.mono hN hf λg cs hg hb hu=>⟨cs,(k.block g hb.size (hF g cs hg hb)).trans hb,qR _,hu⟩
def aY (w:ϖ)(B:Nat)(fp:Nat->Prop)(N:Nat):Prop:=∃(MC MR:Nat)(LC LR:List (Int × ϗ)),ah w B #[.map (some MC),.map (some MR)] 171/\aB w MC LC/\aB w MR LR/\(∀p ∈ LC,QS w fp N p.2)/\(∀p ∈ LR,∃a b c d e:Int,p.2=φ #[a,b,c,d,e])/\fp B/\fp MC/\fp MR/\MC≠MR/\∀x,fp x->x<w.heap.size
theorem aY.ko {w w':ϖ} {B N:Nat} {fp F:Nat->Prop} (h:aY w B fp N)(k:KO F w w')(hF:∀x,fp x->¬F x):aY w' B fp N:=by obtain⟨MC,MR,LC,LR,h1,h2,h3,h4,h5,h6,h7,h8,h9,Rj⟩:=h;exact⟨MC,MR,LC,LR,(k.block B h1.size (hF _ h6)).trans h1,h2.ko k (hF _ h7),h3.ko k (hF _ h8),λp hp=>(h4 p hp).of_ko (qR _) (λ_ h=>h) k (λg _ hg _=>hF g hg),h5,h6,h7,h8,h9,λx hx=>qB (Rj x hx) k.size⟩
theorem aY.below {w w':ϖ} {B N:Nat} {fp:Nat->Prop} (h:aY w B fp N)(k:Below w w w'):aY w' B fp N:=h.ko (KO.of_below (F:=λ_=>False) k) (λ_ _ f=>f)
instance {w B fp N}:Mv (aY w B fp N) w (λv'=>aY v' B fp N):=⟨λk h=>aY.below h k⟩
theorem aY.mono {w:ϖ} {B N N':Nat} {fp:Nat->Prop} (h:aY w B fp N)(hN:N<=N'):aY w B fp N':=by obtain⟨MC,MR,LC,LR,h1,h2,h3,h4,h5,h6,h7,h8,h9,Rj⟩:=h;exact⟨MC,MR,LC,LR,h1,h2,h3,λp hp=>(h4 p hp).of_ko hN (λ_ h=>h) (KO.refl (λ_=>False) w) (λ_ _ _ _ f=>f),h5,h6,h7,h8,h9,Rj⟩
theorem pB {k:Int} {v:ϗ}:∀{L:List (Int × ϗ)},lk k L=some v->∃p ∈ L,p.2=v
 | [],h=>by simp[lk] at h
 | (j,u)::r,h=>by
  unfold lk at h;by_cases e:k=j
  ·rw[qP e] at h;cases h;exact⟨(j,_),List.mem_cons_self ..,rfl⟩
  ·rw[qI e] at h;obtain⟨p,hp,e⟩:=pB h;exact⟨p,qb _ hp,e⟩
theorem jI {k:Int} {v:ϗ}:∀{L:List (Int × ϗ)} {p:Int × ϗ},p ∈ dN k v L->p.2=v\/p ∈ L
 | [],p,h=>by simp[dN] at h;subst h;exact .inl rfl
 | (j,u)::r,p,h=>by
  unfold dN at h;by_cases e:k=j
  ·rw[qP e] at h;rcases qC.1 h with h|h
   ·subst h;exact .inl rfl
   ·exact .inr (by simp[h])
  ·rw[qI e] at h;rcases qC.1 h with h|h
   ·exact .inr (by simp[h])
   ·rcases jI h with h|h
    ·exact .inl h
    ·exact .inr (by simp[h])
theorem QS.look {w:ϖ} {fp:Nat->Prop} {N:Nat} {LC:List (Int × ϗ)} (h:∀p ∈ LC,QS w fp N p.2)(k:Int):QS w fp N ((lk k LC).getD Kn):=by
 cases e:lk k LC with
 | none=>exact .inl rfl
 | some v=>obtain⟨p,hp,rfl⟩:=pB e;exact h p hp
theorem Az:(Ψ.info? 39).map (λi=>(i.zero,i.size,i.bytes))=some (some (ι υ 0),1,8):=by kernel_rfl
theorem pJ {w:ϖ} {fp:Nat->Prop} {N:Nat} {v:ϗ} (h:QS w fp N v)(hN:N<=1000000)(Ku:∀x,fp x->x<w.heap.size) {X:Nat} {k:Int} (hX:ah w X #[k] 39)(ty:TypeId):
  ∃v' w',(Builtin.append_ #[197,197] ty #[v,ζ X 1 1]).run Ψ w=.ok v' w'/\QS w' (λx=>fp x\/(w<=x/\x<w')) (N+1) v'/\
   (∀u,QS w fp N u->QS w' (λx=>fp x\/(w<=x/\x<w')) (N+1) u)/\∃F:Nat->Prop,KO F w w'/\∀x,F x->fp x/\∃cs,ah w x cs 39:=by
 obtain⟨i,hi,q⟩:=Option.map_eq_some_iff.1 Az;simp only[Prod.mk.injEq] at q;have VT:∀(v:ϖ),v.heap[X]?=w.heap[X]?->∀(j:Nat) u,[Value.int .u64 k][j]?=some u->v.cell? ((⟨X,0,none⟩:Addr).add j)=some u:=λv hv j u hj=>by rw[Addr.add_mid,ah.cell (hv.trans hX),Nat.zero_add,<- Array.getElem?_toList];exact hj
 have XM:∀u ∈ [Value.int .u64 k],u.oneCell'=true:=λu hu=>by simp at hu;subst hu;rfl
 have hkeep:∀{w':ϖ},Below w w w'->(∀u,QS w fp N u->QS w' (λx=>fp x\/(w<=x/\x<w')) (N+1) u):=λb u hu=>hu.of_ko ρa (λ_ h=>.inl h) (KO.of_below (F:=λ_=>False) b) (λ_ _ _ _ f=>f);have YU:∀(OH:List ϗ) (n Kt:Nat),(∀u ∈ OH,FF u)->OH.length=n->n<=N->Kt<n+1->∀v' w',v'=ζ w (n+1) (grownCap w (n+1) Kt 39)->w'=w.drew.alloc (.cells (OH.toArray++[Value.int .u64 k].toArray++Builtin.zeroCells (Value.int .u64 0).cells (grownCap w (n+1) Kt 39 - (n+1))) 39)->
   QS w' (λx=>fp x\/(w<=x/\x<w')) (N+1) v'/\(∀u,QS w fp N u->QS w' (λx=>fp x\/(w<=x/\x<w')) (N+1) u)/\∃F:Nat->Prop,KO F w w'/\∀x,F x->fp x/\∃cs,ah w x cs 39:=by
  rintro OH n Kt hou XL hn hc v' w' rfl rfl;have hb:Below w w (w.drew.alloc (.cells (OH.toArray++[Value.int .u64 k].toArray++Builtin.zeroCells (Value.int .u64 0).cells (grownCap w (n+1) Kt 39 - (n+1))) 39)):=ρE;have XE:=grownCap_ge w (n+1) Kt 39;refine⟨.inr ⟨w,0,n+1,_,_,rfl,ρB,?_,XE,by omega,grownCap_le_maxLen _ _ _ _ σX,?_,.inr ⟨qR _,by simp⟩⟩,hkeep hb,λ_=>False,KO.of_below hb,λ_ f=>f.elim⟩
  ·simp only[Array.size_append,List.size_toArray,size_zeroCells,XL];simp[Value.cells];omega
  ·intro j u hj;have hu:=Array.mem_of_getElem? hj;simp only[Array.mem_append,List.mem_toArray] at hu;rcases hu with (hu|hu)|hu
   ·exact hou u hu
   ·simp at hu;exact⟨k,hu⟩
   ·unfold Builtin.zeroCells at hu;obtain⟨m,_,rfl⟩:=Array.mem_map.1 hu;exact⟨0,by simp[Value.cells,Nat.mod_one]⟩
 rcases h with rfl|⟨g,off,n,Kt,cs,rfl,h1,h2,h3,h4,h5,h6,h7⟩
 ·have hr:=run_append_nil (P:=Ψ) w 197 ty 39 i _ Tryz.underlying197 hi q.1 ⟨X,0,none⟩ 1 1 [k] (by rw[q.2.1];rfl) (VT w rfl) ρa ρa (by rw[q.2.2];omega);exact⟨_,_,hr,YU [] 0 0 (λu hu=>by simp at hu) rfl ρa ρa _ _ rfl ρp⟩
 ·have Ol:∀j,w.cell? ⟨g,j,none⟩=cs[j]?:=λj=>h1.cell j;by_cases Oq:n+1<=Kt
  ·have Mp:off+n<cs.size:=by omega
   have hr:=run_append_room_cells (P:=Ψ) w 197 ty 39 i Tryz.underlying197 hi g off n Kt ⟨X,0,none⟩ 1 1 [k] (by rw[q.2.1];rfl) (VT w rfl) XM Oq (λj hj=>by simp at hj;subst hj;rw[Ol,q.2.1];simp[Mp]) (λj hj=>h1.frozen _)
   rw[q.2.1,Nat.mul_one] at hr;have hB:ah (w.setCell ⟨g,off+n,none⟩ k) g (cs.setIfInBounds (off+n) k) 39:=h1.set_same rfl;have hu:∀(i:Nat) u,(cs.setIfInBounds (off+n) k)[i]?=some u->FF u:=λi u hi=>by
    rw[Array.getElem?_setIfInBounds] at hi;split at hi
    ·cases hi;exact⟨_,rfl⟩
    ·exact h6 i u hi
   have hko:KO (λx=>x=g) w (w.setCell ⟨g,off+n,none⟩ k):=ρK;refine⟨_,_,hr,.inr ⟨g,off,n+1,Kt,_,rfl,hB,by simpa using h2,Oq,by omega,h5,hu,.inl h7⟩,λu hq=>hq.mono ρa (λ_ h=>.inl h) (λg' cs' hf f' UZ=>?_),λx=>x=g,hko,λx hx=>by subst hx;exact⟨h7,_,h1⟩⟩;by_cases e:g'=g
   ·subst e;have:cs'=cs:=by have:=f'.symm.trans h1;simp at this;exact this
    subst this;exact⟨_,hB,by simp,hu⟩
   ·exact⟨cs',(hko.block g' f'.size e).trans f',qR _,UZ⟩
  ·obtain⟨OH,XL,hoc,hou⟩:∃OH:List ϗ,OH.length=n/\(∀(j:Nat) u,OH[j]?=some u->cs[off+j]?=some u)/\∀u ∈ OH,FF u:=by
    refine⟨(cs.toList.drop off).take n,by simp;omega,λj u hj=>?_,λu hu=>?_⟩
    ·have hjn:j<n:=by have:=(List.getElem?_eq_some_iff.1 hj).1;simp at this;omega
     rw[List.getElem?_take_of_lt hjn,List.getElem?_drop,Array.getElem?_toList] at hj;exact hj
    ·obtain⟨j,hj⟩:=List.getElem?_of_mem (List.mem_of_mem_drop (List.mem_of_mem_take hu));rw[Array.getElem?_toList] at hj;exact h6 j u hj
   have hr:=run_append_grow (P:=Ψ) w 197 ty 39 i _ Tryz.underlying197 hi q.1 ⟨g,off,none⟩ n Kt OH (by rw[q.2.1,Nat.mul_one];exact XL) (λj u hj=>by rw[Addr.add_mid,Ol];exact hoc j u hj) ⟨X,0,none⟩ 1 1 [k] (by rw[q.2.1];rfl) (VT w rfl) ρa ρa (growslice_fits ρa (by rw[q.2.2];omega));exact⟨_,_,hr,YU OH n Kt hou XL h4 ρa _ _ rfl rfl⟩
theorem ny {Ki:Array Oper} {o:Oper} {a:Act} {K:Act->ϖ->Prop} {Q:Exit->Act->ϖ->Prop} {E:Prop} {w:ϖ} (Ns:o.guard=none)(s x:Operand)
  (ho:o.op=.call {callee:=.builtin .append,args:=#[s,x],argTypes:=#[197,197]})
  {fp:Nat->Prop} {N:Nat} {v:ϗ} (hs:a.eval s=v) (h:QS w fp N v) (hN:N<=1000000) (Ku:∀x,fp x->x<w.heap.size) {X:Nat} {k:Int} (hx:a.eval x=ζ X 1 1) (hX:ah w X #[k] 39)
  (hk:∀v' w',QS w' (λx=>fp x\/(w<=x/\x<w')) (N+1) v'->(∀u,QS w fp N u->QS w' (λx=>fp x\/(w<=x/\x<w')) (N+1) u)->(∃F:Nat->Prop,KO F w w'/\∀x,F x->fp x/\∃cs,ah w x cs 39)->K (a.put o.dst v') w'):
  if Region.wanted o (yielded Ki a.tmps)=true then Oper.wp Ψ o a w K Q else E:=by
 have hw:Region.wanted o (yielded Ki a.tmps)=true:=by simp[Region.wanted,Ns]
 rw[qP hw];obtain⟨v',w',hr,h1,h2,h3⟩:=pJ h hN Ku hX o.type;refine δc ?_;exact hk v' w' h1 h2 h3
def CN (c:CD):Prop:=(0<=c.r0/\0<=c.r1/\0<=c.r2)/\(0<=c.l0/\0<=c.l1/\0<=c.l2)/\(0<=c.u0/\0<=c.u1/\0<=c.u2)
theorem rU {w:ϖ} {b o:Nat} {cs ds:List ϗ} (h:w.rangeAt b o cs)(p n:Nat)(e:(cs.drop p).take n=ds):w.rangeAt b (o+p) ds:=by
 intro j v hj;subst e;have QR:cs[p+j]?=some v:=by
  rw[List.getElem?_take] at hj;split at hj
  ·rwa [List.getElem?_drop] at hj
  ·exact ax hj ρp
 rw[Nat.add_assoc];exact h _ _ QR
abbrev eN (c:CD):List ϗ:=[ι ε c.id,ι ε c.par,β c.lf,ι υ c.r0,ι υ c.r1,ι υ c.r2,ι υ c.l0,ι υ c.l1,ι υ c.l2,ι υ c.u0,ι υ c.u1,ι υ c.u2,ι ε c.pk,ι ε c.by_]
theorem gK (c:CD):∀u ∈ eN c,u.oneCell'=true:=by intro u h;simp[eN] at h;rcases h with rfl|rfl|rfl|rfl|rfl|rfl|rfl|rfl|rfl|rfl|rfl|rfl|rfl|rfl<;>rfl
theorem ks {p:CD->Bool} {c:CD} (h:p c=false):[c].filter p=[]:=by rw[List.filter_cons,h];rfl
theorem ji {p:CD->Bool} {c:CD} (h:p c=true):[c].filter p=[c]:=by rw[List.filter_cons,h];rfl
theorem dD:(Ψ.info? 43).map (λi=>(i.zero,i.size,i.bytes))=some (some (φ (lp 0 0 false 0 0 0 0 0 0 0 0 0 0 0)),14,112):=by kernel_rfl
theorem n9 (v:ϗ)(L:List CD)(id:Int)(w:ϖ)(B:Nat)(G:aK 14 eN w B v L)(hl:L.length<=1000):Calls Ψ 17 #[v,ι ε id] w λe w'=>∃i:Int,e=ϰ (ι ε i)/\(i=-1/\fc L id=none\/∃(k:Nat)(c:CD),i=k/\L[k]?=some c/\fc L id=some c)/\Below w w w':=by
 obtain⟨oa,oc,rfl,-⟩:=G.slice;refine δh ?_;clear G hl;intro n hn G hl zB;go_in;go_wp2_with fail;go_loopw [9] (λk wr=>∃(a b:List CD),k=ι ε (a.length:Nat)/\fc L id=fc b id/\L=a++b/\aK 14 eN wr B (ζ oa n oc) L/\Below w w wr) (λk _=>n - (intOf k).toNat);case atStart=>exact⟨[],L,rfl,rfl,rfl,G.below ρE,ρE⟩
 case round=>
  obtain⟨a,b,rfl,hf,Kq,G0,Kj⟩:=hrel;refine η7 ?_;intro zw Kv q hq;rw[hq] at Kv ⊢;cases b with
  | nil=>refine η6 ?_;intro Ku hd;have Ro:fc L id=none:=hf;change Hid _ at Kv hf Ro;clear Kq;go_wp2;go_ret;exact⟨-1,rfl,.inl ⟨rfl,Ro.out⟩,Kj.trans ρE⟩
  | cons c r=>
   refine η8 ?_;intro Ku hd KX;have Nu:q<n:=ρa;obtain⟨g0,off,rfl,hg,RA⟩:=G0.at KX;have OU:g0<wr:=ρa;have KU:=KX;have hxs':=Kq;change Hid _ at Kv hq Kq KX hn hxs';replace Kj:=KO.of_below (F:=λ_=>False) Kj;go_upto_region 3 with (fail);go_upto_region 4 with (refine Go.wpList_load_mid rfl 43 _ rfl g0 (off+q*14) rfl (eN c) _ RA Tryz.underlying43 rfl ρi ?_;try simp only[eN]);refine Jw (θ2 Kj G0) (λv=>ah v wr (fh c) 43) ρB ?_;rintro v1 X1 ⟨I',G1⟩;have Rr:=X1.r;by_cases ci:c.id=id
   ·have d1:(c.id==id)=true:=by rw[ci];exact beq_self_eq_true _
    have Ro:fc L id=some c:=by rw[hf];unfold fc;rw[qP ci.symm]
    change Hid _ at hf Ro;go_wp2;go_ret;exact⟨q,rfl,.inr ⟨q,c,rfl,KU,Ro.out⟩,(I'.step0 ρE).toBelow⟩
   ·have d1:(c.id==id)=false:=qN.2 ci;have Ro:fc L id=fc r id:=by rw[hf];show (if id=c.id then _ else _)=_;rw[qI (Ne.symm ci)]
    change Hid _ at hf Ro;go_wp2;go_roundw;case rel=>exact⟨a++[c],r,by rw[qL,hq.out];go_num,Ro.out,by rw[Kq.out];simp,G1.below ρE,(I'.step0 ρE).toBelow⟩
    case measure=>exact ξb
theorem pF (v:ϗ)(L:List CD)(id:Int)(hq:∀c ∈ L,CN c)(w:ϖ)(B:Nat)(G:aK 14 eN w B v L)(hl:L.length<=1000):
  CB 96 #[v,ι ε id] w (β (kV L id)):=by
 obtain⟨oa,oc,rfl,-⟩:=G.slice;refine δh ?_;clear G hl;intro n hn G hl zB;obtain⟨s,hs⟩:=Nq (kV L id);rw[hs];unfold CB;go_in;go_wp2_with fail;refine(n9 _ L id _ B (G.below ρE) ρa).mono ?_;rintro e v1 ⟨i,rfl,hi,kx⟩;have I':Below w w v1:=Below.trans ρE kx;have G1:=G.below I';have zv:=I'.size;by_cases ci:id=0
 ·have d1:(id==0)=true:=by rw[ci];rfl
  have K6:s=true:=by rw[<- hs,ci];unfold kV;cases fc L 0<;>simp
  subst K6;replace hs:=ag hs;clear hi;go_wp2;go_ret;exact⟨rfl,I'.trans ρE⟩
 ·have d1:(id==0)=false:=qN.2 ci;rcases hi with ⟨rfl,hf⟩|⟨k,c,rfl,hk,hf⟩
  ·have K6:s=false:=by rw[<- hs];unfold kV;rw[hf];simp[ci]
   subst K6;change Hid _ at hs hf;go_wp2;go_ret;exact⟨rfl,I'.trans ρE⟩
  ·have hnn:k<n:=by have:=(List.getElem?_eq_some_iff.1 hk).1;omega
   have Ku:(k:Int)<(n:Int):=ρa;obtain⟨g0,off,rfl,hg,RA⟩:=G1.at hk;have Mu:=List.mem_of_getElem? hk;have LD:=hq c Mu;have RB:v1.rangeAt g0 (off+k*14+6) [c.l0,c.l1,c.l2]:=rU RA 6 3 rfl;have K6:s=dv (kd c.l0 c.l1 c.l2):=by rw[<- hs];unfold kV;rw[hf];simp[ci]
   obtain⟨kv,Nt⟩:=Nq (kd c.l0 c.l1 c.l2);rw[Nt] at K6;change Hid _ at hs hf hk;clear Mu hq;obtain⟨x,hx⟩:=Nq (dv kv);rw[hx] at K6;subst K6;have d2:decide (1<kv)=s:=hx;clear hx;have b0:v1.cell? ⟨g0,off+k*14+6,none⟩=some (ι υ c.l0):=RB 0 _ rfl;have b1:v1.cell? ⟨g0,off+k*14+6+1,none⟩=some (ι υ c.l1):=RB 1 _ rfl;have b2:v1.cell? ⟨g0,off+k*14+6+2,none⟩=some (ι υ c.l2):=RB 2 _ rfl;go_wp2_with fail;refine(bV c.l0 c.l1 c.l2 kv _ LD.2.1.1 LD.2.1.2.1 LD.2.1.2.2 Nt).mono ?_;rintro e v2 ⟨rfl,ky⟩;go_wp2;go_ret;exact⟨rfl,(I'.trans (ky.mono zv)).trans ρE⟩
def CO:Nat->List CD->Int->List Int
 | 0,_,_=>[]
 | k+1,L,i=>match fc L i with | none=>[] | some c=>i::CO k L c.par
theorem Ke (v:ϗ)(L:List CD)(id:Int)(w:ϖ)(B:Nat)(G:aK 14 eN w B v L)(hl:L.length<=1000):Calls Ψ 41 #[v,ι ε id] w λe w'=>∃u,e=ϰ u/\HI w' w u (CO 70 L id)/\Below w w w':=by
 obtain⟨oa,oc,rfl,-⟩:=G.slice;refine δh ?_;clear G hl;intro n hn G hl zB;obtain⟨X,hX⟩:=Nq (CO 70 L id);rw[hX];go_in;go_wp2_with fail;go_loopw [5,6,9] (λo a k wr=>∃(q:Nat) (i:Int) (xs:List Int),k=ι ε q/\q<=70/\a=ι ε i/\X=xs++CO (70 - q) L i/\xs.length=q/\HI wr w o xs/\aK 14 eN wr B (ζ oa n oc) L/\Below w w wr) (λ_ _ k _=>70 - (intOf k).toNat);case atStart=>exact⟨0,id,[],rfl,by omega,rfl,hX.symm,rfl,ae.nil _ _,G.below ρE,ρE⟩
 case round=>
  obtain⟨q,i,xs,rfl,hq7,rfl,Kq,SJ,H0,G0,Kj⟩:=hrel;have zw:=Kj.size;obtain⟨ob,oe,rfl⟩:=H0.slice;rw[SJ] at H0 ⊢;replace hX:=ag hX;by_cases cq:q<70
  rotate_left
  ·have hd:=df ((q:Int)<70);have e0:70 - q=0:=ρa;have Pz:X=xs:=by rw[Kq,e0];simp[CO]
   subst Pz;change Hid _ at Kq SJ;clear e0;go_wp2;go_ret;exact⟨_,rfl,H0.below ρE,Kj.trans ρE⟩
  ·have hd:=dt ((q:Int)<70);obtain⟨p,hp⟩:∃p,70 - q=p+1:=⟨69 - q,by omega⟩;rw[hp] at Kq;have hxl7:xs.length<=70:=ρa;change Hid _ at Kq SJ hp;have zB2:B<=wr:=ρa;go_wp2_with fail;refine(n9 _ L i _ B (G0.below ρE) ρa).mono ?_;rintro e v1 ⟨j,rfl,hj,kx⟩;have I':Below wr wr v1:=Below.trans ρE kx;clear kx;obtain⟨G1,H1⟩:=Mw I' (θ2 G0 H0);have zv:=I'.size;rcases hj with ⟨rfl,hf⟩|⟨k,c,rfl,hk,hf⟩
   ·have Pz:X=xs:=by rw[Kq.out];simp[CO,hf]
    subst Pz;replace hf:=ag hf;go_wp2;go_ret;exact⟨_,rfl,H1.below ρE,(Kj.trans (I'.mono zw)).trans ρE⟩
   ·have Pz:X=(xs++[i])++CO p L c.par:=by rw[Kq.out];simp[CO,hf]
    have hnn:k<n:=by have:=(List.getElem?_eq_some_iff.1 hk).1;omega
    have Ku:(k:Int)<(n:Int):=ρa;obtain⟨g0,off,rfl,hg,RA⟩:=G1.at hk;have b0:v1.cell? ⟨g0,off+k*14+1,none⟩=some (ι ε c.par):=RA 1 _ rfl;change Hid _ at hf hk Pz;have J':KO (λ_=>False) w v1:=KO.of_below (Kj.trans (I'.mono zw));have OU:g0<v1:=ρa;have H2:=H1;have G2:=G1;have b2:=b0;clear H1 G1;go_upto_region 7 with (fail);go_upto_region 8 with (refine au Tryz.underlying45 bG rfl (λ_=>rfl) ρC ρf ρf rfl (.tmp 16) (.tmp 18) rfl w (ζ ob q oe) xs i v1 #[ι ε i] rfl ρs ρs (H2.below ρE) ρB ρa ρF ?_;intro o4 v4 H4 kx;replace kx:=kx.of_alloc;have G4:=G2.ko kx (λy hy=>ae.notown H2 ρa);have Km:KO (λ_=>False) w v4:=J'.trans kx τY;have Vh:=Km.size);have b4:v4.cell? ⟨g0,off+k*14+1,none⟩=some (ι ε c.par):=G4.rng hk.out 1 _ rfl;clear b0 b2;go_wp2;go_roundw;case rel=>exact⟨q+1,c.par,xs++[i],by go_num,by omega,rfl,by rw[Pz.out,show 70 - (q+1)=p by have:=hp.out;omega],by rw[qL,SJ.out];rfl,H4.below ρE,G4.below ρE,Km.toBelow.trans ρE⟩
    case measure=>simp[intOf] at*;omega
theorem n8 (v:ϗ)(L:List CD)(id:Int)(w:ϖ)(B:Nat)(G:aK 14 eN w B v L)(hl:L.length<=1000):Calls Ψ 98 #[v,ι ε id] w λe w'=>∃u,e=ϰ u/\HI w' w u ((List.filter (λc:CD=>c.par==id) L).map CD.id)/\Below w w w':=by
 obtain⟨oa,oc,rfl,-⟩:=G.slice;refine δh ?_;clear G hl;intro n hn G hl zB;go_in;go_wp2_with fail;go_loopw [5,10] (λo k wr=>∃(a b:List CD),k=ι ε (a.length:Nat)/\L=a++b/\HI wr w o ((List.filter (λc:CD=>c.par==id) a).map CD.id)/\aK 14 eN wr B (ζ oa n oc) L/\KO (λ_=>False) w wr) (λ_ k _=>n - (intOf k).toNat);case atStart=>exact⟨[],L,rfl,rfl,ae.nil _ _,G.below ρE,ρK⟩
 case round=>
  obtain⟨a,b,rfl,Kq,H0,G0,Kj⟩:=hrel;refine η7 ?_;intro zw Kv q hq;obtain⟨ys,KR⟩:=Nq ((List.filter (λc:CD=>c.par==id) a).map CD.id);have QY:ys.length<=1000:=by rw[<- KR];have:=qH (λc:CD=>c.par==id) a;simp at*;omega
  rw[KR] at H0;obtain⟨ob,oe,rfl⟩:=ae.slice H0;rw[hq] at Kv ⊢;cases b with
  | nil=>
   refine η6 ?_;intro Ku hd;have Mi:L=a:=ρQ;have U':((List.filter (λc:CD=>c.par==id) L).map CD.id)=ys:=by rw[Mi];exact KR
   change Hid _ at Kv Kq KR hq U' Mi;go_wp2;go_ret;exact⟨_,rfl,by rw[U'.out];exact H0.below ρE,Kj.toBelow.trans ρE⟩
  | cons c r=>
   refine η8 ?_;intro Ku hd KX;have Nu:q<n:=ρa;obtain⟨g0,off,rfl,hg,RA⟩:=G0.at KX;have OU:g0<wr:=ρa;have Mu:c ∈ L:=ρS;change Hid _ at Kv hq Kq KX hn KR;go_upto_region 4 with (fail);go_upto_region 5 with (refine Go.wpList_load_mid rfl 43 _ rfl g0 (off+q*14) rfl (eN c) _ RA Tryz.underlying43 rfl ρi ?_;try simp only[eN]);refine Jw (θ3 Kj H0 G0) (λv=>ah v wr (fh c) 43) ρB ?_;rintro v1 X1 ⟨I',H1,G1⟩;replace cX:=X1.cell;replace fX:=X1.frozen;replace zX:=X1.size;have D1:∀z,(λc:CD=>c.par==id) c=z->(c.par==id)=z:=λz h=>h;obtain⟨z,hz⟩:=Nq ((λc:CD=>c.par==id) c);cases z
   ·have d1:=D1 _ hz;have hy2:((List.filter (λc:CD=>c.par==id) (a++[c])).map CD.id)=ys:=by rw[List.filter_append,ks (p:=(λc:CD=>c.par==id)) hz,qA];exact KR.out
    change Hid _ at hz hy2;clear D1;go_wp2;go_roundw;case rel=>exact⟨a++[c],r,by rw[qL,hq.out];go_num,by rw[Kq.out];simp,by rw[hy2.out];exact ae.below H1 ρE,G1.below ρE,I'.step0 ρE⟩
    case measure=>exact ξb
   ·have d1:=D1 _ hz;have hy2:((List.filter (λc:CD=>c.par==id) (a++[c])).map CD.id)=ys++[c.id]:=by rw[List.filter_append,ji (p:=(λc:CD=>c.par==id)) hz];rw[<- KR.out];all_goals (first|rfl|exact List.map_append|simp)
    change Hid _ at hz hy2;clear D1;go_wp2_with (refine au Tryz.underlying45 bG rfl (λ_=>rfl) ρC ρf ρf rfl (.tmp 18) (.tmp 21) rfl w (ζ ob ys.length oe) ys c.id v1 #[ι ε c.id] rfl ρs ρs (H1.below ρE) ρB ρa ρF ?_;intro o6 v6 H6 kx;replace kx:=kx.of_alloc;have G6:=G1.ko kx (λy hy=>ae.notown H1 ρa);have X6:=X1.ko kx (λh=>ae.ne_blk H1 X1 ρf h);have KH:KO (λ_=>False) w v6:=I'.trans kx (by intro y hy h;exact ax h (ae.notown H1 hy));have zk6:=KH.size;replace cX:=X6.cell;replace fX:=X6.frozen;replace zX:=X6.size);exact ηg
theorem EU (v:ϗ)(L:List CD)(NU:∀c ∈ L,CN c)(w:ϖ)(B:Nat)(G:aK 14 eN w B v L)(hl:L.length<=1000):Calls Ψ 47 #[v] w λe w'=>∃u,e=ϰ u/\ae 41 3 fx w' w u (List.filter (λc:CD=>dv (kd c.r0 c.r1 c.r2)) L)/\Below w w w':=by
 obtain⟨oa,oc,rfl,-⟩:=G.slice;refine δh ?_;clear G hl;intro n hn G hl zB;go_in;go_wp2_with fail;go_loopw [3,8] (λo k wr=>∃(a b:List CD),k=ι ε (a.length:Nat)/\L=a++b/\ae 41 3 fx wr w o (List.filter (λc:CD=>dv (kd c.r0 c.r1 c.r2)) a)/\aK 14 eN wr B (ζ oa n oc) L/\KO (λ_=>False) w wr) (λ_ k _=>n - (intOf k).toNat);case atStart=>exact⟨[],L,rfl,rfl,ae.nil _ _,G.below ρE,ρK⟩
 case round=>
  obtain⟨a,b,rfl,Kq,H0,G0,Kj⟩:=hrel;refine η7 ?_;intro zw Kv q hq;obtain⟨ys,KR⟩:=Nq (List.filter (λc:CD=>dv (kd c.r0 c.r1 c.r2)) a);have QY:ys.length<=1000:=by rw[<- KR];have:=qH (λc:CD=>dv (kd c.r0 c.r1 c.r2)) a;simp at*;omega
  rw[KR] at H0;obtain⟨ob,oe,rfl⟩:=ae.slice H0;rw[hq] at Kv ⊢;cases b with
  | nil=>
   refine η6 ?_;intro Ku hd;have Mi:L=a:=ρQ;have U':(List.filter (λc:CD=>dv (kd c.r0 c.r1 c.r2)) L)=ys:=by rw[Mi];exact KR
   change Hid _ at Kv Kq KR hq U' Mi;go_wp2;go_ret;exact⟨_,rfl,by rw[U'.out];exact ae.below H0 ρE,Kj.toBelow.trans ρE⟩
  | cons c r=>
   refine η8 ?_;intro Ku hd KX;have Nu:q<n:=ρa;obtain⟨g0,off,rfl,hg,RA⟩:=G0.at KX;have OU:g0<wr:=ρa;have Mu:c ∈ L:=ρS;change Hid _ at Kv hq Kq KX hn KR;go_upto_region 4 with (fail);go_upto_region 5 with (refine Go.wpList_load_mid rfl 43 _ rfl g0 (off+q*14) rfl (eN c) _ RA Tryz.underlying43 rfl ρi ?_;try simp only[eN]);refine Jw (θ3 Kj H0 G0) (λv=>ah v wr (fh c) 43) ρB ?_;rintro v1 X1 ⟨I',H1,G1⟩;replace cX:=X1.cell;replace fX:=X1.frozen;replace zX:=X1.size;have LD:=NU c Mu;obtain⟨kv,Nt⟩:=Nq (kd c.r0 c.r1 c.r2);have D1:∀z,(λc:CD=>dv (kd c.r0 c.r1 c.r2)) c=z->decide (1<kv)=z:=λz h=>by rw[<- Nt];exact h
   change Hid _ at Nt D1;go_wp2_with fail;refine Zc (θ4 I' H1 G1 X1) ?_;rintro v2 ⟨J',H2,G2,X2⟩;replace cX:=X2.cell;replace fX:=X2.frozen;replace zX:=X2.size;refine(bV c.r0 c.r1 c.r2 kv v2 LD.1.1 LD.1.2.1 LD.1.2.2 Nt.out).mono ?_;rintro e v3 ⟨rfl,kx⟩;obtain⟨H3,G3,X3,Kk⟩:=Mw kx (θ4 H2 G2 X2 J');replace cX:=X3.cell;replace fX:=X3.frozen;replace zX:=X3.size;clear kx;replace D1:=D1.out;obtain⟨z,hz⟩:=Nq ((λc:CD=>dv (kd c.r0 c.r1 c.r2)) c);cases z
   ·have d1:=D1 _ hz;have hy2:(List.filter (λc:CD=>dv (kd c.r0 c.r1 c.r2)) (a++[c]))=ys:=by rw[List.filter_append,ks (p:=(λc:CD=>dv (kd c.r0 c.r1 c.r2))) hz,qA];exact KR.out
    change Hid _ at hz hy2;clear D1;go_wp2;go_roundw;case rel=>exact⟨a++[c],r,by rw[qL,hq.out];go_num,by rw[Kq.out];simp,by rw[hy2.out];exact ae.below H3 ρE,G3.below ρE,Kk.step0 ρE⟩
    case measure=>exact ξb
   ·have d1:=D1 _ hz;have hy2:(List.filter (λc:CD=>dv (kd c.r0 c.r1 c.r2)) (a++[c]))=ys++[c]:=by rw[List.filter_append,ji (p:=(λc:CD=>dv (kd c.r0 c.r1 c.r2))) hz];rw[<- KR.out];all_goals (first|rfl|exact List.map_append|simp)
    change Hid _ at hz hy2;clear D1;go_wp2_with (refine au Tryz.underlying115 mg rfl (λ_=>rfl) τC ρf ρf rfl (.tmp 16) (.tmp 19) rfl w (ζ ob ys.length oe) ys c v3 (aH c.r0 c.r1 c.r2) rfl ρs ρs (H3.below ρE) ρB ρa ρF ?_;intro o6 v6 H6 kx;replace kx:=kx.of_alloc;have G6:=G3.ko kx (λy hy=>ae.notown H3 ρa);have X6:=X3.ko kx (λh=>ae.ne_blk H3 X3 ρf h);have KH:KO (λ_=>False) w v6:=Kk.trans kx (by intro y hy h;exact ax h (ae.notown H3 hy));have zk6:=KH.size;replace cX:=X6.cell;replace fX:=X6.frozen;replace zX:=X6.size);exact ηg
def bU (x:CD):Bool->List CD->List CD
 | d,[]=>if d then [] else [x]
 | d,c::r=>(if d=false/\x.id<=c.id then [x] else [])++(if c.id=x.id then [] else [c])++bU x (d || decide (x.id<=c.id)) r
theorem GJ (v:ϗ)(L:List CD)(x:CD)(w:ϖ)(B:Nat)(G:aK 14 eN w B v L)(hl:L.length<=1000):Calls Ψ 97 #[v,φ #[ι ε x.id,ι ε x.par,β x.lf,x.r0,x.r1,x.r2,x.l0,x.l1,x.l2,x.u0,x.u1,x.u2,ι ε x.pk,ι ε x.by_]] w λe w'=>∃u,e=ϰ u/\ae 43 14 eN w' w u (bU x false L)/\Below w w w':=by
 obtain⟨oa,oc,rfl,-⟩:=G.slice;refine δh ?_;clear G hl;intro n hn G hl zB;obtain⟨Y,hY⟩:=Nq (bU x false L);rw[hY];go_in;go_wp2_with fail;go_loopw [5,6,11] (λo d k wr=>∃(a b:List CD) (z:Bool) (ys:List CD),k=ι ε (a.length:Nat)/\d=β z/\L=a++b/\Y=ys++bU x z b/\ys.length<=2*a.length/\ae 43 14 eN wr (w+1) o ys/\ah wr w #[ι ε x.id,ι ε x.par,β x.lf,x.r0,x.r1,x.r2,x.l0,x.l1,x.l2,x.u0,x.u1,x.u2,ι ε x.pk,ι ε x.by_] 43/\aK 14 eN wr B (ζ oa n oc) L/\KO (λ_=>False) w wr) (λ_ _ k _=>n - (intOf k).toNat);case atStart=>exact⟨[],L,false,[],rfl,rfl,rfl,hY.symm,by simp,ae.nil _ _,ρB,G.below ρE,ρK⟩
 case round=>
  obtain⟨a,b,z,ys,rfl,rfl,Kq,Xz,QY,H0,C0,G0,Kj⟩:=hrel;refine η7 ?_;intro zw Kv q hq;have Yl:=C0.size;obtain⟨ob,oe,rfl⟩:=ae.slice H0;have cC:=C0.cell;have fC:=C0.frozen;replace hY:=ag hY;rw[hq] at Kv QY ⊢;have Zi:ys.length<=2000:=ρa;cases b with
  | nil=>
   refine η6 ?_;intro Ku hd;change Hid _ at Kv Kq hq;cases z
   ·have hy2:Y=ys++[x]:=by rw[Xz];rfl
    subst hy2;replace Xz:=ag Xz;go_wp2_with (refine au Tryz.underlying27 dD rfl (λ_=>rfl) gK ρf ρf rfl (.tmp 40) (.tmp 42) rfl (w+1) (ζ ob ys.length oe) ys x wr #[ι ε x.id,ι ε x.par,β x.lf,x.r0,x.r1,x.r2,x.l0,x.l1,x.l2,x.u0,x.u1,x.u2,ι ε x.pk,ι ε x.by_] rfl ρs ρs (H0.below ρE) ρB ρa ρF ?_;intro o4 v4 H4 kx;replace kx:=kx.of_alloc;have C4:=C0.ko kx (ae.notown H0 ρa);have Km:KO (λ_=>False) w v4:=Kj.trans kx (by intro y hy h;exact ax h (ae.notown H0 ρa));have Vh:=Km.size;replace cC:=C4.cell;replace fC:=C4.frozen;replace zC:=C4.size);go_ret;exact⟨_,rfl,(ae.below H4 ρE).base_le ρa,Km.toBelow.trans ρE⟩
   ·have hy2:Y=ys:=by rw[Xz];exact qA _
    subst hy2;replace Xz:=ag Xz;go_wp2;go_ret;exact⟨_,rfl,(ae.below H0 ρE).base_le ρa,Kj.toBelow.trans ρE⟩
  | cons c r=>
   refine η8 ?_;intro Ku hd KX;have Nu:q<n:=ρa;obtain⟨g0,off,rfl,hg,RA⟩:=G0.at KX;have OU:g0<wr:=ρa;change Hid _ at Kv hq Kq KX hn;have TZ:=Xz;replace Xz:=ag Xz;have ncx:wr.heap.size≠w:=ρa;go_upto_region 5 with (fail);go_upto_region 6 with (refine Go.wpList_load_mid rfl 43 _ rfl g0 (off+q*14) rfl (eN c) _ RA Tryz.underlying43 rfl ρi ?_;try simp only[eN]);refine Jw (θ4 Kj H0 C0 G0) (λv=>ah v wr #[ι ε c.id,ι ε c.par,β c.lf,c.r0,c.r1,c.r2,c.l0,c.l1,c.l2,c.u0,c.u1,c.u2,ι ε c.pk,ι ε c.by_] 43) ρB ?_;rintro v1 X1 ⟨I',H1,C1,G1⟩;replace cC:=C1.cell;replace fC:=C1.frozen;replace zC:=C1.size;replace cX:=X1.cell;replace fX:=X1.frozen;replace zX:=X1.size;cases z
   ·by_cases c1:x.id<=c.id
    ·by_cases c2:c.id=x.id
     ·have d1:=qT c1;have d2:(c.id !=x.id)=false:=by simp[c2]
      have hy2:Y=(ys++[x])++bU x true r:=τp;clear TZ;replace hy2:=ag hy2;go_wp2_with (refine au Tryz.underlying27 dD rfl (λ_=>rfl) gK ρf ρf rfl (.tmp 24) (.tmp 26) rfl (w+1) (ζ ob ys.length oe) ys x v1 #[ι ε x.id,ι ε x.par,β x.lf,x.r0,x.r1,x.r2,x.l0,x.l1,x.l2,x.u0,x.u1,x.u2,ι ε x.pk,ι ε x.by_] rfl ρs ρs (H1.below ρE) ρB ρa ρF ?_;intro o4 v4 H4 kx;replace kx:=kx.of_alloc;have C4:=C1.ko kx (ae.notown H1 ρa);have G4:=G1.ko kx (λy hy=>ae.notown H1 ρa);have X4:=X1.ko kx (λh=>ax (ae.own_ge H0 _ h.symm).2 ρa);have Km:KO (λ_=>False) w v4:=I'.trans kx σs;have Vh:=Km.size;replace cC:=C4.cell;replace fC:=C4.frozen;replace zC:=C4.size;replace cX:=X4.cell;replace fX:=X4.frozen;replace zX:=X4.size);go_roundw;case rel=>exact⟨a++[c],r,true,ys++[x],by rw[qL,hq.out];go_num,rfl,by rw[Kq.out];simp,hy2.out,by simp;rw[hq.out];omega,ae.below H4 ρE,ρB,G4.below ρE,Km.step0 ρE⟩
      case measure=>exact ξb
     ·have d1:=qT c1;have d2:(c.id !=x.id)=true:=by simp[c2]
      have hy2:Y=(ys++[x]++[c])++bU x true r:=τp;clear TZ;replace hy2:=ag hy2;go_upto_region 9 with (refine au Tryz.underlying27 dD rfl (λ_=>rfl) gK ρf ρf rfl (.tmp 24) (.tmp 26) rfl (w+1) (ζ ob ys.length oe) ys x v1 #[ι ε x.id,ι ε x.par,β x.lf,x.r0,x.r1,x.r2,x.l0,x.l1,x.l2,x.u0,x.u1,x.u2,ι ε x.pk,ι ε x.by_] rfl ρs ρs (H1.below ρE) ρB ρa ρF ?_;intro o4 v4 H4 kx;replace kx:=kx.of_alloc;have C4:=C1.ko kx (ae.notown H1 ρa);have G4:=G1.ko kx (λy hy=>ae.notown H1 ρa);have X4:=X1.ko kx (λh=>ax (ae.own_ge H0 _ h.symm).2 ρa);have Km:KO (λ_=>False) w v4:=I'.trans kx σs;have Vh:=Km.size;replace cC:=C4.cell;replace fC:=C4.frozen;replace zC:=C4.size;replace cX:=X4.cell;replace fX:=X4.frozen;replace zX:=X4.size);obtain⟨ob4,oe4,rfl⟩:=ae.slice H4;obtain⟨m4,hm4⟩:=Nq ((ys++[x]).length);obtain⟨y4,hy4⟩:=Nq (ys++[x]);have hyn4:y4.length<=2001:=by rw[<- hy4,qL];simp;omega
      have hyn5:y4.length<=ys.length+1:=by rw[<- hy4,qL];simp
      rw[hy4] at H4 hm4;rw[hy4];subst hm4;replace hy4:=ag hy4;go_wp2_with (refine au Tryz.underlying27 dD rfl (λ_=>rfl) gK ρf ρf rfl (.tmp 33) (.tmp 35) rfl (w+1) (ζ ob4 y4.length oe4) y4 c v4 #[ι ε c.id,ι ε c.par,β c.lf,c.r0,c.r1,c.r2,c.l0,c.l1,c.l2,c.u0,c.u1,c.u2,ι ε c.pk,ι ε c.by_] rfl ρs ρs (H4.below ρE) ρB ρa ρF ?_;intro o5 v5 H5 kx;replace kx:=kx.of_alloc;have C5:=C4.ko kx (ae.notown H4 ρa);have G5:=G4.ko kx (λy hy=>ae.notown H4 ρa);have Kw:KO (λ_=>False) w v5:=Km.trans kx (by intro y hy h;exact ax h (ae.notown H4 ρa));have zk5:=Kw.size;replace cC:=C5.cell;replace fC:=C5.frozen;replace zC:=C5.size);go_roundw;case rel=>exact⟨a++[c],r,true,y4++[c],by rw[qL,hq.out];go_num,rfl,by rw[Kq.out];simp,by rw[<- hy4.out];exact hy2.out,by simp;rw[hq.out];omega,ae.below H5 ρE,ρB,G5.below ρE,Kw.step0 ρE⟩
      case measure=>exact ξb
    ·by_cases c2:c.id=x.id
     ·exact ax (Int.le_of_eq c2.symm) c1
     ·have d1:=qF c1;have d2:(c.id !=x.id)=true:=by simp[c2]
      have hy2:Y=(ys++[c])++bU x false r:=τp;clear TZ;replace hy2:=ag hy2;go_wp2_with (refine au Tryz.underlying27 dD rfl (λ_=>rfl) gK ρf ρf rfl (.tmp 33) (.tmp 35) rfl (w+1) (ζ ob ys.length oe) ys c v1 #[ι ε c.id,ι ε c.par,β c.lf,c.r0,c.r1,c.r2,c.l0,c.l1,c.l2,c.u0,c.u1,c.u2,ι ε c.pk,ι ε c.by_] rfl ρs ρs (H1.below ρE) ρB ρa ρF ?_;intro o4 v4 H4 kx;replace kx:=kx.of_alloc;have C4:=C1.ko kx (ae.notown H1 ρa);have G4:=G1.ko kx (λy hy=>ae.notown H1 ρa);have X4:=X1.ko kx (λh=>ax (ae.own_ge H0 _ h.symm).2 ρa);have Km:KO (λ_=>False) w v4:=I'.trans kx σs;have Vh:=Km.size;replace cC:=C4.cell;replace fC:=C4.frozen;replace zC:=C4.size;replace cX:=X4.cell;replace fX:=X4.frozen;replace zX:=X4.size);go_roundw;case rel=>exact⟨a++[c],r,false,ys++[c],by rw[qL,hq.out];go_num,rfl,by rw[Kq.out];simp,hy2.out,by simp;rw[hq.out];omega,ae.below H4 ρE,ρB,G4.below ρE,Km.step0 ρE⟩
      case measure=>exact ξb
   ·by_cases c1:x.id<=c.id
    ·by_cases c2:c.id=x.id
     ·have d1:=qT c1;have d2:(c.id !=x.id)=false:=by simp[c2]
      have hy2:Y=(ys)++bU x true r:=τp;clear TZ;replace hy2:=ag hy2;go_wp2;go_roundw;case rel=>exact⟨a++[c],r,true,ys,by rw[qL,hq.out];go_num,rfl,by rw[Kq.out];simp,hy2.out,by simp;rw[hq.out];omega,ae.below H1 ρE,ρB,G1.below ρE,I'.step0 ρE⟩
      case measure=>exact ξb
     ·have d1:=qT c1;exact ξO
    ·by_cases c2:c.id=x.id
     ·exact ax (Int.le_of_eq c2.symm) c1
     ·have d1:=qF c1;exact ξO
theorem IY (v:ϗ)(L:List CD)(id:Int)(w:ϖ)(B:Nat)(G:aK 14 eN w B v L)(hl:L.length<=1000):Calls Ψ 65 #[v,ι ε id] w λe w'=>∃sa sn sc m,e=ϰ (φ #[ζ sa sn sc,ι ε m])/\(m=0->ae 43 14 eN w' w (ζ sa sn sc) (List.filter (λc:CD=>c.id !=id) L)/\(∃d,fc L id=some d)/\∀a ∈ L,a.par≠id)/\Below w w w':=by
 obtain⟨oa,oc,rfl,-⟩:=G.slice;refine δh ?_;clear G hl;intro n hn G hl zB;go_in;go_wp2_with fail;refine Jc (θ2 (Ks (λ_=>False) w) G) (λv=>ah v w #[Kn,Kz] 112) ρB ?_;rintro v1 R1 ⟨I',G1⟩;have Rr:=R1.r;refine(n9 _ L id v1 B G1 ρa).mono ?_;rintro e v2 ⟨i,rfl,hi,kx⟩;clear Rr;obtain⟨⟨G2,R2,J'⟩,Rr⟩:=Mx kx (θ3 G1 R1 I');clear kx;have zv2:=J'.size;rcases hi with ⟨rfl,hf⟩|⟨kk,d,rfl,hk,hf⟩
 ·replace hf:=ag hf;go_wp2_with fail;refine eR v2 (λx=>x=w.heap.size) (λv=>ah v w #[ζ oa n oc,ι ε 6] 112) ρB (λ_ kx=>kx) ?_;rintro v9 R9 k9;have Mh:=R9.cell;refine qO (v:=φ #[ζ oa n oc,ι ε 6]) κj rfl ?_;exact⟨_,_,_,6,rfl,λh=>ax h ρf,J'.toBelow.trans (k9.below zv2 ρy)⟩
 ·change Hid _ at hk hf;go_wp2_with fail;refine Zc (θ3 J' G2 R2) ?_;rintro v3 ⟨Kk,G3,R3⟩;refine(n8 _ L id v3 B G3 ρa).mono ?_;rintro e v4 ⟨u,rfl,HK,kx⟩;clear Rr;obtain⟨⟨G4,R4,Km⟩,Rr⟩:=Mx kx (θ3 G3 R3 Kk);clear kx;obtain⟨zs,WQ⟩:=Nq ((List.filter (λc:CD=>c.par==id) L).map CD.id);rw[WQ] at HK;obtain⟨ub,uc,rfl⟩:=ae.slice HK;obtain⟨m,hm⟩:=Nq zs.length;rw[hm];have zv4:=Km.size;have zR4:=R4.size;by_cases cm:0<m
  ·have d2:=dt (0<(m:Int));have WD:=qT cm;change Hid _ at WQ hm;clear HK;go_wp2_with fail;refine eR v4 (λx=>x=w.heap.size) (λv=>ah v w #[ζ oa n oc,ι ε 23] 112) ρB (λ_ kx=>kx) ?_;rintro v9 R9 k9;have Mh:=R9.cell;refine qO (v:=φ #[ζ oa n oc,ι ε 23]) κj rfl ?_;exact⟨_,_,_,23,rfl,λh=>ax h ρf,Km.toBelow.trans (k9.below zv4 ρy)⟩
  ·have d2:=df (0<(m:Int));have WD:=qF cm;have Sa:∀a ∈ L,a.par≠id:=by intro a ha e;have h9:a.id ∈ zs:=(by rw[<- WQ];exact List.mem_map.2 ⟨a,qE.2 ⟨ha,beq_iff_eq.2 e⟩,rfl⟩);rw[List.length_eq_zero_iff.1 (show zs.length=0 by omega)] at h9;exact ax h9 ρp
   replace Sa:=ag Sa;clear HK hm WQ;clear cm;go_wp2_with fail;go_loopw [5,23] (λo k wr=>∃(a b:List CD),k=ι ε (a.length:Nat)/\L=a++b/\ae 43 14 eN wr v4 o (List.filter (λc:CD=>c.id !=id) a)/\aK 14 eN wr B (ζ oa n oc) L/\ah wr w #[Kn,Kz] 112/\KO (λ_=>False) v4 wr) (λ_ k _=>n - (intOf k).toNat);case atStart=>exact⟨[],L,rfl,rfl,ae.nil _ _,G4.below ρE,ρB,ρK⟩
   case round=>
    obtain⟨a,b,rfl,Kq,H0,G0,R0,Kj⟩:=hrel;refine η7 ?_;intro zw Kv q hq;obtain⟨ys,KR⟩:=Nq (List.filter (λc:CD=>c.id !=id) a);have QY:ys.length<=1000:=by rw[<- KR];have:=qH (λc:CD=>c.id !=id) a;simp at*;omega
    rw[KR] at H0;obtain⟨ob,oe,rfl⟩:=ae.slice H0;rw[hq] at Kv ⊢;have Ss:=R0.r;cases b with
    | nil=>
     refine η6 ?_;intro Ku hd;have Mi:L=a:=ρQ;have U':(List.filter (λc:CD=>c.id !=id) L)=ys:=by rw[Mi];exact KR
     change Hid _ at Kv Kq KR hq U' Mi;go_wp2_with fail;refine eR wr (λx=>x=w.heap.size) (λv=>ah v w #[ζ ob ys.length oe,Kz] 112) ρB (λ_ kx=>kx) ?_;rintro v9 R9 k9;have Mh:=R9.cell;refine qO (v:=φ #[ζ ob ys.length oe,Kz]) κj rfl ?_;exact⟨_,_,_,0,rfl,λ_=>⟨by rw[U'.out];exact(ae.ko H0 k9 (λx hx _ e=>by omega)).base_le ρa,⟨d,hf.out⟩,Sa.out⟩,(Km.toBelow.trans (Kj.toBelow.mono zv4)).trans (k9.below ρa ρy)⟩
    | cons c r=>
     refine η8 ?_;intro Ku hd KX;have Nu:q<n:=ρa;obtain⟨g0,off,rfl,hg,RA⟩:=G0.at KX;have OU:g0<wr:=ρa;have Mu:c ∈ L:=ρS;change Hid _ at Kv hq Kq KX hn KR;go_upto_region 8 with (fail);go_upto_region 9 with (refine Go.wpList_load_mid rfl 43 _ rfl g0 (off+q*14) rfl (eN c) _ RA Tryz.underlying43 rfl ρi ?_;try simp only[eN]);refine jW (θ4 Kj H0 G0 R0) (λv=>ah v wr (fh c) 43) ρB ?_;clear Rr Ss;rintro v1 X1 ⟨I',H1,G1,R1⟩ Rr;replace cX:=X1.cell;replace fX:=X1.frozen;replace zX:=X1.size;have D1:∀z,(λc:CD=>c.id !=id) c=z->(c.id !=id)=z:=λz h=>h;obtain⟨z,hz⟩:=Nq ((λc:CD=>c.id !=id) c);cases z
     ·have d1:=D1 _ hz;have hy2:(List.filter (λc:CD=>c.id !=id) (a++[c]))=ys:=by rw[List.filter_append,ks (p:=(λc:CD=>c.id !=id)) hz,qA];exact KR.out
      change Hid _ at hz hy2;clear D1;go_wp2;go_roundw;case rel=>exact⟨a++[c],r,by rw[qL,hq.out];go_num,by rw[Kq.out];simp,by rw[hy2.out];exact ae.below H1 ρE,G1.below ρE,ρB,I'.step0 ρE⟩
      case measure=>exact ξb
     ·have d1:=D1 _ hz;have hy2:(List.filter (λc:CD=>c.id !=id) (a++[c]))=ys++[c]:=by rw[List.filter_append,ji (p:=(λc:CD=>c.id !=id)) hz];rw[<- KR.out];all_goals (first|rfl|exact List.map_append|simp)
      change Hid _ at hz hy2;clear D1;go_wp2_with (refine au Tryz.underlying27 dD rfl (λ_=>rfl) gK ρf ρf rfl (.tmp 31) (.tmp 33) rfl v4 (ζ ob ys.length oe) ys c v1 (fh c) rfl ρs ρs (H1.below ρE) ρB ρa ρF ?_;intro o6 v6 H6 kx;replace kx:=kx.of_alloc;have G6:=G1.ko kx (λy hy=>ae.notown H1 ρa);have R6:=R1.ko kx (ae.notown H1 ρa);have X6:=X1.ko kx (λh=>ax (ae.own_ge H0 _ h.symm).2 ρa);have KH:KO (λ_=>False) v4 v6:=I'.trans kx (by intro y hy h;exact ax h (ae.notown H1 hy));have zk6:=KH.size;replace rR:=R6.r;replace cX:=X6.cell;replace fX:=X6.frozen;replace zX:=X6.size);go_roundw;case rel=>exact⟨a++[c],r,by rw[qL,hq.out];go_num,by rw[Kq.out];simp,by rw[hy2.out];exact ae.below H6 ρE,G6.below ρE,ρB,KH.step0 ρE⟩
      case measure=>exact ξb
def WC (x:CD):Int:=wr x.id x.par x.lf (kd x.r0 x.r1 x.r2) (kd x.l0 x.l1 x.l2) (kd x.u0 x.u1 x.u2) x.pk x.by_
def CZ (x:CD)(L:List CD):Prop:=x.par=0\/∃c,fc L x.par=some c/\c.lf=false
def CW (x:CD)(L:List CD):Prop:=WC x=0/\fc L x.id=none/\L.length≠64/\CZ x L/\(eZ x=true->kV L x.par=true)
theorem IQ (v:ϗ)(L:List CD)(x:CD)(hx:CN x)(hq:∀c ∈ L,CN c)(w:ϖ)(B:Nat)(G:aK 14 eN w B v L)(hl:L.length<=1000):Calls Ψ 64 #[v,φ (fh x)] w λe w'=>∃sa sn sc m,e=ϰ (φ #[ζ sa sn sc,ι ε m])/\(m=0->ae 43 14 eN w' w (ζ sa sn sc) (bU x false L)/\CW x L)/\Below w w w':=by
 obtain⟨oa,oc,rfl,-⟩:=G.slice;refine δh ?_;clear G hl;intro n hn G hl zB;obtain⟨cw,YP⟩:=Nq (WC x);replace YP:=ag YP;go_in;go_wp2_with fail;refine δL ?_;intro v1 C1 R1 I' G1 v2 G2 C2 R2 J' Rr;by_cases c1:cw=0
 rotate_left
 ·have d1:(cw !=0)=true:=by simpa using c1
  go_wp2_with fail;refine eR v2 (λx=>x=(w.heap.size+1)) (λv=>ah v ((w+1)) #[ζ oa n oc,ι ε cw] 112) ρB (λ_ kx=>kx) ?_;rintro v9 R9 k9;have Mh:=R9.cell;refine qO (v:=φ #[ζ oa n oc,ι ε cw]) σw rfl ?_;exact⟨_,_,_,cw,rfl,λh=>ax h c1,J'.toBelow.trans (k9.below J'.size ρy)⟩
 subst c1;go_wp2_with fail;refine Zc (θ4 J' G2 C2 R2) ?_;rintro v3 ⟨Kk,G3,C3,R3⟩;refine(n9 _ L x.id v3 B G3 ρa).mono ?_;rintro e v4 ⟨i,rfl,hi,kx⟩;clear Rr;obtain⟨⟨G4,C4,R4,Km⟩,Rr⟩:=Mx kx (θ4 G3 C3 R3 Kk);clear kx;rcases hi with ⟨rfl,hf⟩|⟨kk,d,rfl,hk,hf⟩
 rotate_left
 ·go_wp2_with fail;refine eR v4 (λx=>x=(w.heap.size+1)) (λv=>ah v ((w+1)) #[ζ oa n oc,ι ε 8] 112) ρB (λ_ kx=>kx) ?_;rintro v9 R9 k9;have Mh:=R9.cell;refine qO (v:=φ #[ζ oa n oc,ι ε 8]) σw rfl ?_;exact⟨_,_,_,8,rfl,λh=>ax h ρf,Km.toBelow.trans (k9.below Km.size ρy)⟩
 by_cases c2:n=64
 ·have d2:((n:Int)==64)=true:=by rw[c2];rfl
  clear c2;go_wp2_with fail;refine eR v4 (λx=>x=(w.heap.size+1)) (λv=>ah v ((w+1)) #[ζ oa n oc,ι ε 5] 112) ρB (λ_ kx=>kx) ?_;rintro v9 R9 k9;have Mh:=R9.cell;refine qO (v:=φ #[ζ oa n oc,ι ε 5]) σw rfl ?_;exact⟨_,_,_,5,rfl,λh=>ax h ρf,Km.toBelow.trans (k9.below Km.size ρy)⟩
 have d2:((n:Int)==64)=false:=qN.2 ρa;change Hid _ at hf c2;go_wp2_with fail;refine Zc (θ4 Km G4 C4 R4) ?_;rintro v5 ⟨Kw,G5,C5,R5⟩;refine(n9 _ L x.par v5 B G5 ρa).mono ?_;rintro e v6 ⟨j,rfl,hj,kx⟩;clear Rr;obtain⟨⟨G6,C6,R6,KH⟩,Rr⟩:=Mx kx (θ4 G5 C5 R5 Kw);clear kx;have b0:=C6.cell 1;simp at b0;go_upto_region 9 with fail;go_cut [43] from 30 to 42 (λt wx=>∃z:Bool,t=β z/\(z=false->CZ x L)/\wx=v6);case first=>
  by_cases c3:x.par=0
  ·have d3:(x.par !=0)=false:=by simp[c3]
   clear hj;go_wp2;go_meet;exact⟨_,rfl,λ_=>.inl c3,rfl⟩
  ·have d3:(x.par !=0)=true:=by simp[c3]
   rcases hj with ⟨rfl,Ro⟩|⟨k,c,rfl,hk,Ro⟩
   ·replace Ro:=ag Ro;go_wp2;go_meet;exact⟨_,rfl,λh=>ax h ρf,rfl⟩
   ·have hnn:k<n:=by have:=(List.getElem?_eq_some_iff.1 hk).1;omega
    have Ku:(k:Int)<(n:Int):=ρa;obtain⟨g0,off,rfl,hg,RA⟩:=G6.at hk;have b2:v6.cell? ⟨g0,off+k*14+2,none⟩=some (β c.lf):=RA 2 _ rfl;obtain⟨z,hz⟩:=Nq c.lf;rw[hz] at b2;change Hid _ at hz hk Ro;go_wp2;go_meet;exact⟨_,rfl,λh=>.inr ⟨c,Ro.out,by rw[hz.out];exact h⟩,rfl⟩
 case rest=>
  obtain⟨z,rfl,Lj,rfl⟩:=hcut;replace hj:=ag hj;cases z
  rotate_left
  ·go_wp2_with fail;refine eR wc (λx=>x=(w.heap.size+1)) (λv=>ah v ((w+1)) #[ζ oa n oc,ι ε 23] 112) ρB (λ_ kx=>kx) ?_;rintro v9 R9 k9;have Mh:=R9.cell;refine qO (v:=φ #[ζ oa n oc,ι ε 23]) σw rfl ?_;exact⟨_,_,_,23,rfl,λh=>ax h ρf,KH.toBelow.trans (k9.below KH.size ρy)⟩
  replace Lj:=ag (Lj rfl);go_upto_region 11 with fail;go_cut [56] from 46 to 55 (λt wx=>∃y:Bool,t=β y/\(y=false->eZ x=true->kV L x.par=true)/\aK 14 eN wx B (ζ oa n oc) L/\ah wx w (fh x) 43/\ah wx (w+1) #[Kn,Kz] 112/\KO (λ_=>False) w wx);case first=>
   obtain⟨kv,Nt⟩:=Nq (kd x.l0 x.l1 x.l2);have MK:eZ x=dv kv:=by rw[<- Nt];rfl
   obtain⟨sb,QV⟩:=Nq (kV L x.par);change Hid _ at Nt MK QV;go_wp2_with fail;refine Zc (θ4 KH G6 C6 R6) ?_;rintro v7 ⟨KV,G7,C7,R7⟩;refine(bV x.l0 x.l1 x.l2 kv v7 hx.2.1.1 hx.2.1.2.1 hx.2.1.2.2 Nt.out).mono ?_;rintro e v8 ⟨rfl,kx⟩;clear Rr;obtain⟨⟨G8,C8,R8,KZ⟩,Rr⟩:=Mx kx (θ4 G7 C7 R7 KV);clear kx;by_cases ck:1<kv
   rotate_left
   ·have d6:=qF ck;go_wp2;go_meet;exact⟨_,rfl,λ_ h=>by rw[MK.out] at h;have h2:1<kv:=of_decide_eq_true h;omega,G8.below ρE,ρB,ρB,KZ.step0 ρE⟩
   ·have d6:=qT ck;go_wp2_with fail;refine Zc (θ4 KZ G8 C8 R8) ?_;rintro v9 ⟨Ll,G9,C9,R9⟩;refine(pF _ L x.par hq v9 B G9 ρa).mono ?_;rintro e Ps ⟨rfl,kx⟩;clear Rr;obtain⟨⟨Vl,Wr,UG,Lc⟩,Rr⟩:=Mx kx (θ4 G9 C9 R9 Ll);clear kx;rw[QV.out];cases sb
    ·go_wp2;go_meet;exact⟨_,rfl,λh=>ax h ρf,Vl.below ρE,ρB,ρB,Lc.step0 ρE⟩
    ·go_wp2;go_meet;exact⟨_,rfl,λ_ _=>QV.out,Vl.below ρE,ρB,ρB,Lc.step0 ρE⟩
  case rest=>
   obtain⟨y,rfl,Rv,G8,C8,R8,KZ⟩:=hcut;replace Rr:=θ2 C8.r R8.r;cases y
   rotate_left
   ·go_wp2_with fail;refine eR wc (λx=>x=(w.heap.size+1)) (λv=>ah v ((w+1)) #[ζ oa n oc,ι ε 29] 112) ρB (λ_ kx=>kx) ?_;rintro v9 R9 k9;have Mh:=R9.cell;refine qO (v:=φ #[ζ oa n oc,ι ε 29]) σw rfl ?_;exact⟨_,_,_,29,rfl,λh=>ax h ρf,KZ.toBelow.trans (k9.below KZ.size ρy)⟩
   replace Rv:=ag (Rv rfl);go_wp2_with fail;refine Zc (θ4 KZ G8 C8 R8) ?_;rintro v9 ⟨Ll,G9,C9,R9⟩;refine(Ke _ L x.par v9 B G9 ρa).mono ?_;rintro e Ps ⟨u,rfl,HU,kx⟩;clear Rr;obtain⟨⟨Vl,Wr,UG,Lc⟩,Rr⟩:=Mx kx (θ4 G9 C9 R9 Ll);clear kx;obtain⟨us,hus⟩:=Nq (CO 70 L x.par);rw[hus] at HU;obtain⟨ub,uc,rfl⟩:=ae.slice HU;obtain⟨m,hm⟩:=Nq us.length;rw[hm];change Hid _ at hus hm;clear HU;by_cases c5:16<=m
   ·have d5:=qT c5;have d5':=dt (16<=(m:Int));go_wp2_with fail;refine eR Ps (λx=>x=(w.heap.size+1)) (λv=>ah v ((w+1)) #[ζ oa n oc,ι ε 25] 112) ρB (λ_ kx=>kx) ?_;rintro v9 R9 k9;have Mh:=R9.cell;refine qO (v:=φ #[ζ oa n oc,ι ε 25]) σw rfl ?_;exact⟨_,_,_,25,rfl,λh=>ax h ρf,Lc.toBelow.trans (k9.below Lc.size ρy)⟩
   have d5:=qF c5;have d5':=df (16<=(m:Int));go_wp2_with fail;refine Zc (θ4 Lc Vl Wr UG) ?_;rintro MN ⟨Ls,Tc,C11,OL⟩;refine(GJ _ L x MN B Tc ρa).mono ?_;rintro e OY ⟨u,rfl,HP,kx⟩;clear Rr;obtain⟨⟨Re,C12,Sq,Le⟩,Rr⟩:=Mx kx (θ4 Tc C11 OL Ls);clear kx;have Wb:w.heap.size+1<MN:=OL.size;obtain⟨ps,MW⟩:=Nq (bU x false L);rw[MW] at HP;obtain⟨pb,pc,rfl⟩:=ae.slice HP;obtain⟨y,hy⟩:∃y:Nat,ps.length=y:=⟨_,rfl⟩;rw[hy] at HP ⊢;change Hid _ at MW hy;go_wp2_with fail;refine eR OY (λx=>x=(w.heap.size+1)) (λv=>ah v ((w+1)) #[ζ pb y pc,Kz] 112) ρB (λ_ kx=>kx) ?_;rintro v9 R9 k9;have Mh:=R9.cell;refine qO (v:=φ #[ζ pb y pc,Kz]) σw rfl ?_;exact⟨_,_,_,0,rfl,λ_=>⟨by rw[MW.out];exact(ae.ko HP k9 (λx hx _ e=>by have:=Wb;omega)).base_le (by have:=Wb;omega),YP.out,hf.out,λe=>c2.out (by rw[<- hn];exact e),Lj.out,Rv.out⟩,Le.toBelow.trans (k9.below Le.size ρy)⟩
def nA (a b:Int):Int:=if Mc<=a\/Mc<=b\/Mc<=a+b then Mc else a+b
theorem GK (a b:Int)(w:ϖ)(ha:0<=a)(hb:0<=b):
  CB 32 #[a,b] w (nA a b):=by
 unfold nA;by_cases c1:Mc<=a
 ·have d1:=qT c1;rw[qP (.inl c1)];exact ξw
 have d1:=qF c1;by_cases c2:Mc<=b
 ·have d2:=qT c2;rw[qP (.inr (.inl c2))];exact ξw
 have d2:=qF c2;obtain⟨s,hs⟩:=Nq (a+b);have hw:IntKind.u64.wrap (a+b)=s:=by rw[hs];exact qZ _ ⟨by omega,by omega⟩
 rw[hs];by_cases c3:Mc<=s
 ·have d3:=qT c3;rw[qP (.inr (.inr c3))];replace hs:=ag hs;exact ξw
 have d3:=qF c3;rw[qI ρa];replace hs:=ag hs;unfold CB;go_in;go_wp2;go_ret;exact⟨rfl,ρE⟩
theorem EX (n:Int)(w:ϖ)(hn:an n):
  CB 37 #[n] w (nv (n*65536)):=by
 obtain⟨p,hp⟩:=Nq (n*65536);rw[hp];replace hp:=ag hp;unfold CB;go_in;go_wp2_with fail;refine Jc (Ks (λ_=>False) w) (λv=>ah v w gc 70) ρB ?_;rintro v1 R1 I';have Rr:=R1.r;refine(kS n 65536 p v1 hn ρa hp.out).mono ?_;rintro e v2 ⟨rfl,kx⟩;clear Rr;obtain⟨⟨R2,J'⟩,Rr⟩:=Mx kx (θ2 R1 I');clear kx;go_wp2_with fail;refine eR v2 (λx=>x=w.heap.size) (λv=>ah v w (bw p) 70) ρB (λ_ kx=>kx) ?_;rintro v9 R9 k9;have Mh:=R9.cell;refine qO (v:=nv p) (by simp[results,Tryz.results37,go_sem,Mh]) rfl ?_;exact⟨rfl,J'.toBelow.trans (k9.below J'.size ρy)⟩
theorem EW (a t:Int)(w:ϖ)(ha:0<=a/\a<=Mc)(ht:0<=t/\t<=65536):
  CB 135 #[nv a,ι ε t] w (nv (a*t)):=by
 obtain⟨p,hp⟩:=Nq (a*t);rw[hp];have hlo:lo a=a:=by unfold lo;omega
 have hhi:hi a=0:=by unfold hi;omega
 have hw:IntKind.u64.wrap t=t:=qZ _ ⟨by omega,by omega⟩;have a128:ai a:=ρz;have hpb:0<=p/\p<=Mc*65536:=κi;have SO:ai p:=ρz;change Hid _ at hp hlo hhi;unfold CB;go_in;go_wp2_with fail;refine Jc (Ks (λ_=>False) w) (λv=>ah v w (bw a) 70/\ah v (w+1) gc 70) ⟨ρB,ρB⟩ ?_;rintro v1 ⟨C1,R1⟩ I';have Rr:=θ2 C1.r R1.r;refine(ER a a v1 hlo.out).mono ?_;rintro e v2 ⟨rfl,kx⟩;clear Rr;obtain⟨⟨C2,R2,J'⟩,Rr⟩:=Mx kx (θ3 C1 R1 I');clear kx;go_wp2_with fail;refine Zc (θ3 J' C2 R2) ?_;rintro v3 ⟨Kk,C3,R3⟩;refine(kS a t p v3 ⟨ha.1,by omega⟩ ⟨ht.1,by omega⟩ hp.out).mono ?_;rintro e v4 ⟨rfl,kx⟩;clear Rr;obtain⟨⟨C4,R4,Km⟩,Rr⟩:=Mx kx (θ3 C3 R3 Kk);clear kx;go_wp2_with fail;refine qi (θ3 Km C4 R4) (λv=>ah v v4 (bw p) 70) ρB ?_;clear Rr;rintro v5 X5 ⟨Kw,C5,R5⟩ Rr;have Ss:=X5.r;refine((by have h:=Gw a v5;rw[hhi.out] at h;exact h:CB 61 #[nv a] v5 Ky)).mono ?_;rintro e v6 ⟨rfl,kx⟩;clear Rr Ss;obtain⟨⟨C6,R6,X6,KH⟩,Rr⟩:=Mx kx (θ4 C5 R5 X5 Kw);clear kx;go_wp2_with fail;refine Zc (θ4 KH C6 R6 X6) ?_;rintro v7 ⟨KV,C7,R7,X7⟩;refine(kS 0 t 0 v7 ρa ⟨ht.1,by omega⟩ (Int.zero_mul t)).mono ?_;rintro e v8 ⟨rfl,kx⟩;clear Rr;obtain⟨⟨C8,R8,X8,KZ⟩,Rr⟩:=Mx kx (θ4 C7 R7 X7 KV);clear kx;have h0:ai 0:=ρz;have hT:∀u,CB 63 #[Ky,Ky] u (nv 0):=λu=>by have h:=Jf 0 u h0;first|(rw[show hi 0=0 by decide,show lo 0=0 by decide] at h;exact h)|exact h
 go_upto_region 3 with (fail);refine jW (θ4 KZ C8 R8 X8) (λv=>ah v v8 (bw 0) 70) ρB ?_;clear Rr;rintro v9 Y9 ⟨Ll,C9,R9,X9⟩ Rr;have Ss:=Y9.r;have q:=θ4 (af C9) (af R9) (af X9) (af Y9);refine Ws 5 (oR ?_)
 repeat (go_big_quiet_step ((first
   | (go_at_call 62;(with_reducible exact cD (ER 0 0 _ rfl)))
   | (go_at_call 63;(with_reducible exact cD (hT _)))
   | (go_at_call 59;(with_reducible exact cD (kG p 0 p _ SO h0 (Int.add_zero p) SO))))))
 refine bE (θ5 C9 R9 X9 Y9 Ll) ?_;clear Rr Ss;rintro Ps ⟨Wr,UG,Vy,Y10,Lc⟩ Rr;clear q C9 R9 X9 Y9;go_wp2_with fail;refine eR Ps (λx=>x=w.heap.size+1) (λv=>ah v (w+1) (bw p) 70) ρB (λ_ kx=>kx) ?_;rintro MN OL k9;have cR11:=OL.cell;refine qO (v:=nv p) (by simp[results,Tryz.results135,go_sem,cR11]) rfl ?_;exact⟨rfl,Lc.toBelow.trans (k9.below Lc.size ρy)⟩
theorem rP (a t n:Int)(w:ϖ)(ha:0<=a/\a<=Mc)(ht:0<=t/\t<=65536)(hn:an n):
  CB 100 #[nv a,ι ε t,n] w (β (!decide (65536*n<a*t))):=by
 obtain⟨p,hp⟩:=Nq (a*t);obtain⟨q,hq⟩:=Nq (65536*n);rw[hp,hq];have hpb:0<=p/\p<=Mc*65536:=κi;have SO:ai p:=ρz;have q128:ai q:=ρz;obtain⟨c,hc⟩:=Nq (decide (q<p));rw[hc];have hT:∀u,CB 135 #[nv a,ι ε t] u (nv p):=λu=>by have h:=EW a t u ha ht;rw[hp] at h;exact h
 change Hid _ at hp hq hc;cases c
 ·unfold CB;go_in;go_upto_region 1 with (fail);refine Jw (Ks (λ_=>False) w) (λv=>ah v w (bw a) 70) ρB ?_;rintro v1 C1 I';have Rr:=C1.r;have qC:=af C1;refine Wq ?_
  repeat (go_big_quiet_step ((first
    | (go_at_call 38;(with_reducible exact cD (kS 65536 n q _ ρa hn hq.out)))
    | (go_at_call 135;(with_reducible exact cD (hT _)))
    | (go_at_call 23;(with_reducible exact cD (pE q p false _ q128 SO hc.out))))))
  refine bE (θ2 C1 I') ?_;clear Rr;rintro v2 ⟨C2,J'⟩ Rr;clear qC C1;exact ηp
 ·unfold CB;go_in;go_upto_region 1 with (fail);refine Jw (Ks (λ_=>False) w) (λv=>ah v w (bw a) 70) ρB ?_;rintro v1 C1 I';have Rr:=C1.r;have qC:=af C1;refine Wq ?_
  repeat (go_big_quiet_step ((first
    | (go_at_call 38;(with_reducible exact cD (kS 65536 n q _ ρa hn hq.out)))
    | (go_at_call 135;(with_reducible exact cD (hT _)))
    | (go_at_call 23;(with_reducible exact cD (pE q p true _ q128 SO hc.out))))))
  refine bE (θ2 C1 I') ?_;clear Rr;rintro v2 ⟨C2,J'⟩ Rr;clear qC C1;exact ηp
theorem Dm (v:ϗ)(L:List CD)(t:Int)(ht:1<=t/\t<=65536)(NU:∀c ∈ L,CN c)(w:ϖ)(B:Nat)(G:aK 3 fx w B v L)(hl:L.length<=1000):Calls Ψ 67 #[ι ε t,v] w λe w'=>∃m,e=ϰ (ι ε m)/\((m=0->∀c ∈ L,kd c.r0 c.r1 c.r2≠0)/\(m≠0->∃c ∈ L,kd c.r0 c.r1 c.r2=0))/\Below w w w':=by
 obtain⟨oa,oc,rfl,-⟩:=G.slice;refine δh ?_;clear G hl;intro n hn G hl zB;have d1:=df (t<1);have d2:=df (65536<t);go_in;go_wp2_with fail;go_loopw [15] (λk wr=>∃(a b:List CD),k=ι ε (a.length:Nat)/\L=a++b/\(∀c ∈ a,kd c.r0 c.r1 c.r2≠0)/\aK 3 fx wr B (ζ oa n oc) L/\KO (λ_=>False) w wr) (λk _=>n - (intOf k).toNat);case atStart=>exact⟨[],L,rfl,rfl,by simp,G.below ρE,ρK⟩
 case round=>
  obtain⟨a,b,rfl,Kq,MJ,G0,Kj⟩:=hrel;refine η7 ?_;intro zw Kv q hq;rw[hq] at Kv ⊢;cases b with
  | nil=>refine η6 ?_;intro Ku hd;have Mi:L=a:=ρQ;change Hid _ at Kv Kq hq Mi MJ;go_wp2;go_ret;exact⟨0,rfl,⟨λ_=>by rw[Mi.out];exact MJ.out,λh=>ax rfl h⟩,Kj.toBelow.trans ρE⟩
  | cons c r=>
   refine η8 ?_;intro Ku hd KX;have Nu:q<n:=ρa;obtain⟨g0,off,rfl,hg,RA⟩:=G0.at KX;have OU:g0<wr:=ρa;have LD:=(NU c ρS).1;obtain⟨kv,Nt⟩:=Nq (kd c.r0 c.r1 c.r2);change Hid _ at Kv hq Kq KX hn Nt MJ;go_upto_region 5 with (fail);go_upto_region 6 with (refine Go.wpList_load_mid rfl 41 _ rfl g0 (off+q*3) rfl (fx c) _ RA Tryz.underlying41 rfl ρi ?_;try simp only[fx]);refine Jw (θ2 Kj G0) (λv=>ah v wr (aH c.r0 c.r1 c.r2) 41) ρB ?_;rintro v1 X1 ⟨I',G1⟩;have Rr:=X1.r;go_wp2_with fail;refine Zc (θ3 I' G1 X1) ?_;rintro v2 ⟨J',G2,X2⟩;refine(bV c.r0 c.r1 c.r2 kv v2 LD.1 LD.2.1 LD.2.2 Nt.out).mono ?_;rintro e v3 ⟨rfl,kx⟩;clear Rr;obtain⟨⟨G3,X3,Kk⟩,Rr⟩:=Mx kx (θ3 G2 X2 J');clear kx;by_cases c1:kv=0
   ·have d3:(kv==0)=true:=by rw[c1];rfl
    skip;go_wp2;go_ret;exact⟨21,rfl,⟨λh=>ax h ρf,λ_=>⟨c,by rw[Kq.out];simp,by rw[Nt.out];exact c1⟩⟩,Kk.toBelow.trans ρE⟩
   ·have d3:(kv==0)=false:=qN.2 c1;replace c1:=ag c1;go_wp2;go_roundw;case rel=>exact⟨a++[c],r,by rw[qL,hq.out];go_num,by rw[Kq.out];simp,λy hy=>(qM.1 hy).elim (MJ.out y) (λh=>by rw[qS.1 h,Nt.out];exact c1.out),G3.below ρE,Kk.step0 ρE⟩
    case measure=>exact ξb
theorem wY (v:ϗ)(L:List CD)(t:Int)(ht:an t)(hc:∀c ∈ L,(0<=c.r0/\0<=c.r1/\0<=c.r2)/\0<=sk c.r0 c.r1 c.r2 t/\sk c.r0 c.r1 c.r2 t<=4503599627370496)(w:ϖ)(B:Nat)(G:aK 3 fx w B v L)(hl:L.length<=1000):
  CB 101 #[v,t] w (nv (L.map λc=>sk c.r0 c.r1 c.r2 t).sum):=by
 obtain⟨oa,oc,rfl,-⟩:=G.slice;refine δh ?_;clear G hl;intro n hn G hl zB;obtain⟨Y,hY⟩:=Nq ((L.map λc=>sk c.r0 c.r1 c.r2 t).sum);rw[hY];unfold CB;go_in;go_wp2_with fail;go_loopw [11] (λk wr=>∃(a b:List CD) (s:Int),k=ι ε (a.length:Nat)/\L=a++b/\(a.map λc=>sk c.r0 c.r1 c.r2 t).sum=s/\(0<=s/\s<=a.length*4503599627370496)/\ah wr (w+1) #[(aX (s)),(ct (s)),(iU (s)),(jT (s))] 70/\ah wr w gc 70/\aK 3 fx wr B (ζ oa n oc) L/\Below w w wr) (λk _=>n - (intOf k).toNat);case atStart=>exact⟨[],L,0,rfl,rfl,rfl,by simp,ρR,ρB,G.below ρE,ρE⟩
 case round=>
  obtain⟨a,b,s,rfl,Kq,hs,QV,O0,R0,G0,Kj⟩:=hrel;refine η7 ?_;intro zw Kv q hq;rw[hq] at Kv QV ⊢;have MQ:q<=n:=ρa;have Wp:ai s:=ρz;have zO:=O0.size;have zR:=R0.size;have cO:=O0.cell;have fO:=O0.frozen;have cR:=R0.cell;have fR:=R0.frozen;cases b with
  | nil=>
   refine η6 ?_;intro Ku hd;have KR:Y=s:=by rw[<- hY,Kq,qA];exact hs
   subst KR;change Hid _ at Kv Kq hq hs hY;go_wp2_with fail;refine δ0 ?_;rintro v9 R9 k9;have Mh:=R9.cell;refine qO (v:=nv Y) (by simp[results,Tryz.results101,go_sem,Mh]) rfl ?_;exact⟨rfl,Kj.trans (k9.below zw ρy)⟩
  | cons c r=>
   refine η8 ?_;intro Ku hd KX;have Nu:q<n:=ρa;obtain⟨g0,off,rfl,hg,RA⟩:=G0.at KX;have OU:g0<wr:=ρa;have hS:=hc c ρS;obtain⟨LD,hS1,hS2⟩:=hS;obtain⟨S,hSe⟩:=Nq (sk c.r0 c.r1 c.r2 t);rw[hSe] at hS1 hS2;obtain⟨s2,K6⟩:=Nq (s+S);have Vs:ai S:=ρz;have RH:ai s2:=ρz;have NK:0<=s2/\s2<=(q+1)*4503599627370496:=ρa;replace Kj:=KO.of_below (F:=λ_=>False) Kj;have nXO:wr.heap.size≠w+1:=ρa;change Hid _ at Kv hq Kq KX hn hSe K6 hs hY;go_upto_region 4 with (fail);go_upto_region 5 with (refine Go.wpList_load_mid rfl 41 _ rfl g0 (off+q*3) rfl (fx c) _ RA Tryz.underlying41 rfl ρi ?_;try simp only[fx]);refine Jw (θ4 Kj G0 O0 R0) (λv=>ah v wr (aH c.r0 c.r1 c.r2) 41) ρB ?_;rintro v1 X1 ⟨I',G1,O1,R1⟩;replace cO:=O1.cell;replace fO:=O1.frozen;replace zO:=O1.size;replace cR:=R1.cell;replace fR:=R1.frozen;replace zR:=R1.size;have Rr:=X1.r;have qO:=af O1;have qR:=af R1;have qX:=af X1;refine Ws 5 (oR ?_)
   repeat (go_big_quiet_step ((first
     | (go_at_call 90;(with_reducible exact cD (gV c.r0 c.r1 c.r2 t S _ LD.1 LD.2.1 LD.2.2 ht hSe.out)))
     | (go_at_call 59;(with_reducible exact cD (kG s S s2 _ Wp Vs K6.out RH))))))
   refine Zq (θ5 G1 O1 R1 X1 I') ?_;rintro v2 ⟨G2,O2,R2,X2,J'⟩;replace cO:=O2.cell;replace fO:=O2.frozen;replace zO:=O2.size;replace cR:=R2.cell;replace fR:=R2.frozen;replace zR:=R2.size;replace Rr:=X2.r;clear qO qR qX G1 O1 R1 X1;go_wp2;go_roundw;case rel=>exact⟨a++[c],r,s2,by rw[qL,hq.out];go_num,by rw[Kq.out];simp,by rw[List.map_append,List.sum_append,hs.out];simp[hSe.out,K6.out],by rw[qL,hq.out];exact⟨NK.1,Int.le_trans NK.2 ρp⟩,ρB,ρB,G2.ko (F:=λx=>x=w.heap.size+1) ρK σP,J'.toBelow.trans ρE⟩
   case measure=>exact ξb
theorem Ch (v:ϗ)(L:List CD)(hc:∀c ∈ L,(0<=c.r0/\0<=c.r1/\0<=c.r2)/\kd c.r0 c.r1 c.r2≠0/\c.r2<=Md)(w:ϖ)(B:Nat)(G:aK 3 fx w B v L)(hl:L.length<=1000):
  CB 102 #[v,dO] w (nv (L.map λc=>c.r2).sum):=by
 obtain⟨oa,oc,rfl,-⟩:=G.slice;refine δh ?_;clear G hl;intro n hn G hl zB;obtain⟨Y,hY⟩:=Nq ((L.map λc=>c.r2).sum);rw[hY];unfold CB;go_in;go_wp2_with fail;go_loopw [12] (λk wr=>∃(a b:List CD) (s:Int),k=ι ε (a.length:Nat)/\L=a++b/\(a.map λc=>c.r2).sum=s/\(0<=s/\s<=a.length*Md)/\ah wr (w+1) #[(aX (s)),(ct (s)),(iU (s)),(jT (s))] 70/\ah wr w gc 70/\aK 3 fx wr B (ζ oa n oc) L/\Below w w wr) (λk _=>n - (intOf k).toNat);case atStart=>exact⟨[],L,0,rfl,rfl,rfl,by simp,ρR,ρB,G.below ρE,ρE⟩
 case round=>
  obtain⟨a,b,s,rfl,Kq,hs,QV,O0,R0,G0,Kj⟩:=hrel;refine η7 ?_;intro zw Kv q hq;rw[hq] at Kv QV ⊢;have MQ:q<=n:=ρa;have Wp:ai s:=ρz;have zO:=O0.size;have zR:=R0.size;have cO:=O0.cell;have fO:=O0.frozen;have cR:=R0.cell;have fR:=R0.frozen;cases b with
  | nil=>
   refine η6 ?_;intro Ku hd;have KR:Y=s:=by rw[<- hY,Kq,qA];exact hs
   subst KR;change Hid _ at Kv Kq hq hs hY;go_wp2_with fail;refine δ0 ?_;rintro v9 R9 k9;have Mh:=R9.cell;refine qO (v:=nv Y) (by simp[results,Tryz.results102,go_sem,Mh]) rfl ?_;exact⟨rfl,Kj.trans (k9.below zw ρy)⟩
  | cons c r=>
   refine η8 ?_;intro Ku hd KX;have Nu:q<n:=ρa;obtain⟨g0,off,rfl,hg,RA⟩:=G0.at KX;have OU:g0<wr:=ρa;have hS:=hc c ρS;obtain⟨LD,VR,hS2⟩:=hS;obtain⟨kv,Nt⟩:=Nq (kd c.r0 c.r1 c.r2);rw[Nt] at VR;have d5:(kv !=0)=true:=by simpa using VR
   obtain⟨s2,K6⟩:=Nq (s+c.r2);have Vs:ai c.r2:=ρz;have RH:ai s2:=ρz;have NK:0<=s2/\s2<=(q+1)*Md:=ρa;replace Kj:=KO.of_below (F:=λ_=>False) Kj;have nXO:wr.heap.size≠w+1:=ρa;clear VR;change Hid _ at Kv hq Kq KX hn Nt K6 hs hY;go_upto_region 4 with (fail);go_upto_region 5 with (refine Go.wpList_load_mid rfl 41 _ rfl g0 (off+q*3) rfl (fx c) _ RA Tryz.underlying41 rfl ρi ?_;try simp only[fx]);refine Jw (θ4 Kj G0 O0 R0) (λv=>ah v wr (aH c.r0 c.r1 c.r2) 41) ρB ?_;rintro v1 X1 ⟨I',G1,O1,R1⟩;replace cO:=O1.cell;replace fO:=O1.frozen;replace zO:=O1.size;replace cR:=R1.cell;replace fR:=R1.frozen;replace zR:=R1.size;have Rr:=X1.r;go_wp2_with fail;refine Zc (θ5 I' G1 O1 R1 X1) ?_;rintro v2 ⟨J',G2,O2,R2,X2⟩;replace cO:=O2.cell;replace fO:=O2.frozen;replace zO:=O2.size;replace cR:=R2.cell;replace fR:=R2.frozen;replace zR:=R2.size;replace Rr:=X2.r;refine(bV c.r0 c.r1 c.r2 kv v2 LD.1 LD.2.1 LD.2.2 Nt.out).mono ?_;rintro e v3 ⟨rfl,kx⟩;obtain⟨G3,O3,R3,X3,Kk⟩:=Mw kx (θ5 G2 O2 R2 X2 J');replace cO:=O3.cell;replace fO:=O3.frozen;replace zO:=O3.size;replace cR:=R3.cell;replace fR:=R3.frozen;replace zR:=R3.size;replace Rr:=X3.r;clear kx;go_upto_region 9 with (fail);refine Zw (θ5 Kk G3 O3 R3 X3) ?_;rintro v4 ⟨Km,G4,O4,R4,X4⟩;replace cO:=O4.cell;replace fO:=O4.frozen;replace zO:=O4.size;replace cR:=R4.cell;replace fR:=R4.frozen;replace zR:=R4.size;replace Rr:=X4.r;have qO:=af O4;have qR:=af R4;have qX:=af X4;refine Ws 4 (oR ?_)
   repeat (go_big_quiet_step ((first
     | (go_at_call 60;(with_reducible exact cD (Cg c.r2 _ LD.2.2 ρa)))
     | (go_at_call 59;(with_reducible exact cD (kG s c.r2 s2 _ Wp Vs K6.out RH))))))
   refine Zq (θ5 G4 O4 R4 X4 Km) ?_;rintro v5 ⟨G5,O5,R5,X5,Kw⟩;replace cO:=O5.cell;replace fO:=O5.frozen;replace zO:=O5.size;replace cR:=R5.cell;replace fR:=R5.frozen;replace zR:=R5.size;replace Rr:=X5.r;clear qO qR qX G4 O4 R4 X4;go_wp2;go_roundw;case rel=>exact⟨a++[c],r,s2,by rw[qL,hq.out];go_num,by rw[Kq.out];simp,by rw[List.map_append,List.sum_append,hs.out];simp[K6.out],by rw[qL,hq.out];exact⟨NK.1,Int.le_trans NK.2 ρp⟩,ρB,ρB,G5.ko (F:=λx=>x=w.heap.size+1) ρK σP,Kw.toBelow.trans ρE⟩
   case measure=>exact ξb
theorem ES (t l:Int)(w:ϖ):
  CB 27 #[φ #[ι ε t,ι ε l]] w (β (decide (1<=t/\t<=65536/\1<=l/\l<=16384))):=by
 obtain⟨z,hz⟩:∃z,decide (1<=t/\t<=65536/\1<=l/\l<=16384)=z:=⟨_,rfl⟩;rw[hz];by_cases c0:1<=t
 rotate_left
 ·have d0:=qF c0;exact ηq
 have d0:=qT c0;by_cases c1:t<=65536
 rotate_left
 ·have d1:=qF c1;exact ηq
 have d1:=qT c1;by_cases c2:1<=l
 rotate_left
 ·have d2:=qF c2;exact ηq
 have d2:=qT c2;by_cases c3:l<=16384
 rotate_left
 ·have d3:=qF c3;exact ηq
 have d3:=qT c3;have Li:z=true:=by rw[<- hz];exact qT ⟨c0,c1,c2,c3⟩
 subst Li;replace hz:=ag hz;unfold CB;go_in;go_wp2;go_ret;exact⟨rfl,ρE⟩
theorem EP (t l n:Int)(c:CD)(w:ϖ)(ht:1<=t/\t<=65536)(hl:1<=l/\l<=16384)(hn:an n)(hc:(0<=c.r0/\c.r0<=Ma)/\(0<=c.r1/\c.r1<=Ma)/\0<=c.r2/\c.r2<=Ma):
  CB 33 #[φ #[ι ε t,ι ε l],φ (aH c.r0 c.r1 c.r2),n] w (ι υ (nA (tk c.r0 c.r1 c.r2 (n*65536)) (t*l))):=by
 obtain⟨W,hW⟩:=Nq (n*65536);rw[hW];have W128:ai W:=ρz;have hA0:=(uG (m:=c.r0) (d:=c.r1) (n:=c.r2) hc.1.1 hc.2.1.1 hc.2.2.1 (show 0<=W by omega)).1;obtain⟨A,hA⟩:=Nq (tk c.r0 c.r1 c.r2 W);rw[hA] at hA0 ⊢;obtain⟨p,hp⟩:=Nq (t*l);rw[hp];have hpb:0<=p/\p<=65536*16384:=by rw[<- hp];exact⟨Int.mul_nonneg ρa ρa,Int.mul_le_mul ht.2 hl.2 ρa ρa⟩
 have Uj:IntKind.u64.wrap t=t:=qZ _ ⟨by omega,by omega⟩;have XV:IntKind.u64.wrap l=l:=qZ _ ⟨by omega,by omega⟩;have hw3:IntKind.u64.wrap (t*l)=p:=by rw[hp];exact qZ _ ⟨by omega,by omega⟩
 have hU:∀u,CB 37 #[n] u (nv W):=λu=>by have h:=EX n u hn;rw[hW] at h;exact h
 obtain⟨V,hV⟩:=Nq (nA A p);rw[hV];have hT:∀u,CB 32 #[A,p] u V:=λu=>by have h:=GK A p u hA0 hpb.1;rw[hV] at h;exact h
 change Hid _ at hW hA hp hV;unfold CB;go_in;go_upto_region 1 with (fail);refine Jw (Ks (λ_=>False) w) (λv=>ah v w #[ι ε t,ι ε l] 23/\ah v (w+1) (aH c.r0 c.r1 c.r2) 41) ⟨ρB,ρB⟩ ?_;rintro v1 ⟨C1,D1⟩ I';have Rr:=θ2 C1.r D1.r;have q:=θ2 (af C1) (af D1);refine Wq ?_
 repeat (go_big_quiet_step ((first
   | (go_at_call 37;(with_reducible exact cD (hU _)))
   | (go_at_call 57;(with_reducible exact cD (ul c.r0 c.r1 c.r2 W A _ hc.1 hc.2.1 hc.2.2 W128 hA.out)))
   | (go_at_call 32;(with_reducible exact cD (hT _))))))
 refine bE (θ3 C1 D1 I') ?_;clear Rr;rintro v2 ⟨C2,D2,J'⟩ Rr;clear q C1 D1;go_wp2;go_ret;exact⟨rfl,J'.toBelow.trans ρE⟩
theorem I3 (v:ϗ)(L:List Int)(id:Int)(w:ϖ)(B:Nat)(G:aK 1 (λx:Int=>[Value.int .i64 x]) w B v L)(hl:L.length<=1000):
  CB 40 #[v,ι ε id] w (β (decide (id ∈ L))):=by
 obtain⟨oa,oc,rfl,-⟩:=G.slice;refine δh ?_;clear G hl;intro n hn G hl zB;obtain⟨z,hz⟩:=Nq (decide (id ∈ L));rw[hz];unfold CB;go_in;go_wp2_with fail;go_loopw [9] (λk wr=>∃(a b:List Int),k=ι ε (a.length:Nat)/\L=a++b/\(id ∉ a)/\aK 1 (λx:Int=>[Value.int .i64 x]) wr B (ζ oa n oc) L/\KO (λ_=>False) w wr) (λk _=>n - (intOf k).toNat);case atStart=>exact⟨[],L,rfl,rfl,by simp,G.below ρE,ρK⟩
 case round=>
  obtain⟨a,b,rfl,Kq,MJ,G0,Kj⟩:=hrel;refine η7 ?_;intro zw Kv q hq;rw[hq] at Kv ⊢;cases b with
  | nil=>
   refine η6 ?_;intro Ku hd;have Li:z=false:=by rw[<- hz,Kq,qA];exact qF MJ
   subst Li;change Hid _ at Kv Kq hq MJ hz;exact ξU
  | cons c r=>
   refine η8 ?_;intro Ku hd KX;have Nu:q<n:=ρa;obtain⟨g0,off,rfl,hg,RA⟩:=G0.at KX;have OU:g0<wr:=ρa;have b0:wr.cell? ⟨g0,off+q*1,none⟩=some (ι ε c):=RA 0 _ rfl;have b1:wr.cell? ⟨g0,off+q,none⟩=some (ι ε c):=τ5;have hxs2:=Kq;change Hid _ at Kv hq Kq KX hn MJ hz hxs2;by_cases c1:c=id
   ·have d1:(c==id)=true:=by rw[c1];exact beq_self_eq_true _
    have Li:z=true:=by rw[<- hz.out,hxs2.out];exact qT (by simp[c1])
    subst Li;clear hxs2;replace c1:=ag c1;exact ξU
   ·have d1:(c==id)=false:=qN.2 c1;have hk2:id ∉ a++[c]:=λh=>(qM.1 h).elim MJ.out (λh=>c1 (qS.1 h).symm);change Hid _ at hk2 c1;go_wp2;go_roundw;case rel=>exact⟨a++[c],r,by rw[qL,hq.out];go_num,by rw[Kq.out];simp,hk2.out,G0.below ρE,Kj.step0 ρE⟩
    case measure=>exact ξb
def Da (x:CD)(L:List CD):Prop:=WC x=0/\(∃d,fc L x.id=some d/\d.par=x.par/\d.lf=x.lf)/\(eZ x=true->kV L x.par=true)/\(eZ x=false->∀a ∈ L,a.par=x.id->kV L a.id=false)
theorem IV (v:ϗ)(L:List CD)(x:CD)(hx:CN x)(hq:∀c ∈ L,CN c)(w:ϖ)(B:Nat)(G:aK 14 eN w B v L)(hl:L.length<=1000):Calls Ψ 66 #[v,φ (fh x)] w λe w'=>∃sa sn sc m,e=ϰ (φ #[ζ sa sn sc,ι ε m])/\(m=0->ae 43 14 eN w' w (ζ sa sn sc) (bU x false L)/\Da x L)/\Below w w w':=by
 obtain⟨oa,oc,rfl,-⟩:=G.slice;refine δh ?_;clear G hl;intro n hn G hl zB;have Nk:L.length<=1000:=ρa;obtain⟨cw,YP⟩:=Nq (WC x);replace YP:=ag YP;go_in;go_wp2_with fail;refine δL ?_;intro v1 C1 R1 I' G1 v2 G2 C2 R2 J' Rr;by_cases c1:cw=0
 rotate_left
 ·have d1:(cw !=0)=true:=by simpa using c1
  go_wp2_with fail;refine eR v2 (λx=>x=(w.heap.size+1)) (λv=>ah v ((w+1)) #[ζ oa n oc,ι ε cw] 112) ρB (λ_ kx=>kx) ?_;rintro v9 R9 k9;have Mh:=R9.cell;refine qO (v:=φ #[ζ oa n oc,ι ε cw]) σK rfl ?_;exact⟨_,_,_,cw,rfl,λh=>ax h c1,J'.toBelow.trans (k9.below J'.size ρy)⟩
 subst c1;go_wp2_with fail;refine Zc (θ4 J' G2 C2 R2) ?_;rintro v3 ⟨Kk,G3,C3,R3⟩;refine(n9 _ L x.id v3 B G3 ρa).mono ?_;rintro e v4 ⟨i,rfl,hi,kx⟩;clear Rr;obtain⟨⟨G4,C4,R4,Km⟩,Rr⟩:=Mx kx (θ4 G3 C3 R3 Kk);clear kx;rcases hi with ⟨rfl,hf⟩|⟨kk,d,rfl,hk,hf⟩
 ·go_wp2_with fail;refine eR v4 (λx=>x=(w.heap.size+1)) (λv=>ah v ((w+1)) #[ζ oa n oc,ι ε 6] 112) ρB (λ_ kx=>kx) ?_;rintro v9 R9 k9;have Mh:=R9.cell;refine qO (v:=φ #[ζ oa n oc,ι ε 6]) σK rfl ?_;exact⟨_,_,_,6,rfl,λh=>ax h ρf,Km.toBelow.trans (k9.below Km.size ρy)⟩
 have VR:kk<n:=by have:=(List.getElem?_eq_some_iff.1 hk).1;omega
 have Ku:(kk:Int)<(n:Int):=ρa;obtain⟨g0,off,rfl,hg,RA⟩:=G4.at hk;have b1:v4.cell? ⟨g0,off+kk*14+1,none⟩=some (ι ε d.par):=RA 1 _ rfl;have b2:v4.cell? ⟨g0,off+kk*14+2,none⟩=some (β d.lf):=RA 2 _ rfl;change Hid _ at hk hf hn;obtain⟨dl,MI⟩:=Nq d.lf;rw[MI] at b2;have c2:=C4.cell 2;go_upto_region 7 with fail;go_cut [42] from 25 to 41 (λt wx=>∃z:Bool,t=β z/\(z=false->d.par=x.par/\d.lf=x.lf)/\ah wx w (fh x) 43/\ah wx (w+1) #[Kn,Kz] 112/\aK 14 eN wx B (ζ (some ⟨g0,off,none⟩) n oc) L/\KO (λ_=>False) w wx);case first=>
  by_cases c3:d.par=x.par
  rotate_left
  ·have d3:(d.par !=x.par)=true:=by simpa using c3
   go_region
   all_goals (go_wp2;go_meet)
   exact⟨_,rfl,λh=>ax h ρf,ρB,ρB,G4.below ρE,Km.step0 ρE⟩
  ·have d3:(d.par !=x.par)=false:=by simp[c3]
   obtain⟨z,hz⟩:=Nq (dl !=x.lf);replace c3:=ag c3;go_region
   all_goals (go_wp2;go_meet)
   exact⟨_,rfl,λh=>⟨c3.out,by have h2:=h;rw[MI];revert h2;cases dl<;>cases x.lf<;>simp⟩,ρB,ρB,G4.below ρE,Km.step0 ρE⟩
 case rest=>
  obtain⟨z,rfl,Mk,C4',R4',G4',k04'⟩:=hcut;clear C4 R4 G4 Km;have C4:=C4';have R4:=R4';have G4:=G4';have Km:=k04';clear C4' R4' G4' k04';replace Rr:=θ2 C4.r R4.r;cases z
  rotate_left
  ·go_wp2_with fail;refine eR wc (λx=>x=(w.heap.size+1)) (λv=>ah v ((w+1)) #[ζ (some ⟨g0,off,none⟩) n oc,Ko] 112) ρB (λ_ kx=>kx) ?_;rintro v9 R9 k9;have Mh:=R9.cell;refine qO (v:=φ #[ζ (some ⟨g0,off,none⟩) n oc,Ko]) σK rfl ?_;exact⟨_,_,_,1,rfl,λh=>ax h ρf,Km.toBelow.trans (k9.below Km.size ρy)⟩
  replace Mk:=ag (Mk rfl);clear b1 b2;obtain⟨kv,Nt⟩:=Nq (kd x.l0 x.l1 x.l2);have MK:eZ x=dv kv:=by rw[<- Nt];rfl
  obtain⟨sb,QV⟩:=Nq (kV L x.par);change Hid _ at Nt MK QV;go_wp2_with fail;refine Zc (θ4 Km C4 R4 G4) ?_;rintro v5 ⟨Kw,C5,R5,G5⟩;refine(bV x.l0 x.l1 x.l2 kv v5 hx.2.1.1 hx.2.1.2.1 hx.2.1.2.2 Nt.out).mono ?_;rintro e v6 ⟨rfl,kx⟩;clear Rr;obtain⟨⟨C6,R6,G6,KH⟩,Rr⟩:=Mx kx (θ4 C5 R5 G5 Kw);clear kx;obtain⟨sx,UX⟩:=Nq (decide (1<kv));have Lv:eZ x=sx:=by rw[MK.out,<- UX];rfl
  replace Lv:=ag Lv;go_upto_region 10 with fail;go_cut [56] from 49 to 55 (λt wx=>∃y:Bool,t=β y/\(y=false->sx=true->sb=true)/\ah wx w (fh x) 43/\ah wx (w+1) #[Kn,Kz] 112/\aK 14 eN wx B (ζ (some ⟨g0,off,none⟩) n oc) L/\KO (λ_=>False) w wx);case first=>
   cases sx
   ·go_wp2;go_meet;exact⟨_,rfl,λ_ h=>ax h ρf,ρB,ρB,G6.below ρE,KH.step0 ρE⟩
   ·go_wp2_with fail;refine Zc (θ4 KH C6 R6 G6) ?_;rintro v7 ⟨KV,C7,R7,G7⟩;refine(pF _ L x.par hq v7 B G7 ρa).mono ?_;rintro e v8 ⟨rfl,kx⟩;clear Rr;obtain⟨⟨C8,R8,G8,KZ⟩,Rr⟩:=Mx kx (θ4 C7 R7 G7 KV);clear kx;rw[QV.out];cases sb
    ·go_wp2;go_meet;exact⟨_,rfl,λh=>ax h ρf,ρB,ρB,G8.below ρE,KZ.step0 ρE⟩
    ·go_wp2;go_meet;exact⟨_,rfl,λ_ _=>by first|rfl|trivial,ρB,ρB,G8.below ρE,KZ.step0 ρE⟩
  case rest=>
   obtain⟨y,rfl,Rv,C8,R8,G8,KZ⟩:=hcut;replace Rr:=θ2 C8.r R8.r;cases y
   rotate_left
   ·go_wp2_with fail;refine eR wc (λx=>x=(w.heap.size+1)) (λv=>ah v ((w+1)) #[ζ (some ⟨g0,off,none⟩) n oc,ι ε 29] 112) ρB (λ_ kx=>kx) ?_;rintro v9 R9 k9;have Mh:=R9.cell;refine qO (v:=φ #[ζ (some ⟨g0,off,none⟩) n oc,ι ε 29]) σK rfl ?_;exact⟨_,_,_,29,rfl,λh=>ax h ρf,KZ.toBelow.trans (k9.below KZ.size ρy)⟩
   replace Rv:=ag (Rv rfl);go_wp2_with fail;refine Zc (θ4 KZ C8 R8 G8) ?_;rintro v9 ⟨Ll,C9,R9,G9⟩;refine(n8 _ L x.id v9 B G9 ρa).mono ?_;rintro e Ps ⟨u,rfl,HK,kx⟩;clear Rr;obtain⟨⟨Wr,UG,Vl,Lc⟩,Rr⟩:=Mx kx (θ4 C9 R9 G9 Ll);clear kx;obtain⟨zs,WQ⟩:=Nq ((List.filter (λc:CD=>c.par==x.id) L).map CD.id);have hzl:zs.length<=1000:=by rw[<- WQ,nl];exact qK (qH _ _) (by rw[hn.out];exact hl)
   rw[WQ] at HK;have YA:=ae.rd HK (λ_=>rfl);obtain⟨B2,PI⟩:=Nq Ps.heap.size;rw[PI] at YA;clear HK;obtain⟨ub,uc,rfl,-⟩:=aK.slice YA;obtain⟨m,hm⟩:=Nq zs.length;rw[hm] at YA hzl ⊢;replace WQ:=ag WQ;have zB2:B2<=Ps:=ρa;go_wp2_with fail;go_loopw [64] (λk wr=>∃(a b:List Int),k=ι ε (a.length:Nat)/\zs=a++b/\(sx=false->∀i ∈ a,kV L i=false)/\ah wr (w+1) #[Kn,Kz] 112/\ah wr w (fh x) 43/\aK 14 eN wr B (ζ (some ⟨g0,off,none⟩) n oc) L/\aK 1 (λx:Int=>[Value.int .i64 x]) wr B2 (ζ ub m uc) zs/\KO (λ_=>False) w wr) (λk _=>m - (intOf k).toNat);case atStart=>exact⟨[],zs,rfl,rfl,λ_ i h=>ax h ρp,ρB,ρB,Vl.below ρE,YA.below ρE,Lc.step0 ρE⟩
   case round=>
    obtain⟨a,b,rfl,Kq,MJ,OL,C11,Tc,YB,Ls⟩:=hrel;have zw:=Ls.size;have Kv:a.length+b.length=m:=τS;obtain⟨q,MQ⟩:=Nq a.length;rw[MQ] at Kv ⊢;clear UG Wr Vl YA Lc;have Ss:=θ2 OL.r C11.r;cases b with
    | nil=>have Mp:¬(q:Int)<(m:Int):=ρo;have hd:=qF Mp;have hza:zs=a:=ρQ;change Hid _ at Kv Kq MQ MJ hza;go_wp2_with fail;refine Zc (θ4 Ls OL C11 Tc) ?_;rintro OY ⟨Le,Sq,C12,Re⟩;refine(GJ _ L x OY B Re ρa).mono ?_;rintro e QE ⟨u,rfl,HP,kx⟩;clear Rr Ss;obtain⟨⟨R13,C13,ZF,Ml⟩,Rr⟩:=Mx kx (θ4 Sq C12 Re Le);clear kx;have Wc:w.heap.size+1<OY:=Sq.size;obtain⟨ps,MW⟩:=Nq (bU x false L);rw[MW] at HP;obtain⟨pb,pc,rfl⟩:=ae.slice HP;obtain⟨y,hy⟩:∃y:Nat,ps.length=y:=⟨_,rfl⟩;rw[hy] at HP ⊢;change Hid _ at MW hy;go_wp2_with fail;refine eR QE (λx=>x=(w.heap.size+1)) (λv=>ah v ((w+1)) #[ζ pb y pc,Kz] 112) ρB (λ_ kx=>kx) ?_;rintro v9 R9 k9;have Mh:=R9.cell;refine qO (v:=φ #[ζ pb y pc,Kz]) σK rfl ?_;exact⟨_,_,_,0,rfl,λ_=>⟨by rw[MW.out];exact(ae.ko HP k9 (λx hx _ e=>by have:=Wc;omega)).base_le (by have:=Wc;omega),YP.out,⟨d,hf.out,Mk.out⟩,λh=>by rw[QV.out];exact Rv.out (by rw[<- Lv.out];exact h),λh a ha e=>by have h9:a.id ∈ zs:=(by rw[<- WQ.out];exact List.mem_map.2 ⟨a,qE.2 ⟨ha,beq_iff_eq.2 e⟩,rfl⟩);rw[hza.out] at h9;exact MJ.out (by rw[<- Lv.out];exact h) _ h9⟩,Ml.toBelow.trans (k9.below Ml.size ρy)⟩
    | cons c r=>
     have Mp:(q:Int)<(m:Int):=ρo;have hd:=qT Mp;have KX:zs[q]?=some c:=by rw[Kq,<- MQ];simp
     have Nu:q<m:=ρa;have zZ:B2<=wr:=by obtain⟨_,_,_,_,h,_⟩:=YB;exact h
     obtain⟨g1,Ry,rfl,hg1,ZS⟩:=YB.at KX;have b0:wr.cell? ⟨g1,Ry+q*1,none⟩=some (ι ε c):=ZS 0 _ rfl;have bb:wr.cell? ⟨g1,Ry+q,none⟩=some (ι ε c):=τ5;have OU:g1<wr:=ρa;change Hid _ at Kv MQ Kq KX MJ hm;cases sx
     rotate_left
     ·go_wp2;go_roundw;case rel=>exact⟨a++[c],r,by rw[qL,MQ.out];go_num,by rw[Kq.out];simp,λh=>ax h ρf,ρB,ρB,Tc.below ρE,YB.below ρE,Ls.step0 ρE⟩
      case measure=>exact ξb
     ·obtain⟨sc,RX⟩:=Nq (kV L c);replace RX:=ag RX;go_wp2_with fail;refine Zc (θ5 Ls OL C11 Tc YB) ?_;rintro OY ⟨Le,Sq,C12,Re,Z12⟩;refine(pF _ L c hq OY B Re ρa).mono ?_;rintro e QE ⟨rfl,kx⟩;clear Rr Ss;obtain⟨⟨R13,C13,ZF,Z',Ml⟩,Rr⟩:=Mx kx (θ5 Sq C12 Re Z12 Le);clear kx;rw[RX.out];cases sc
      rotate_left
      ·go_wp2_with fail;refine eR QE (λx=>x=(w.heap.size+1)) (λv=>ah v ((w+1)) #[ζ (some ⟨g0,off,none⟩) n oc,ι ε 29] 112) ρB (λ_ kx=>kx) ?_;rintro v9 R9 k9;have Mh:=R9.cell;refine qO (v:=φ #[ζ (some ⟨g0,off,none⟩) n oc,ι ε 29]) σK rfl ?_;exact⟨_,_,_,29,rfl,λh=>ax h ρf,Ml.toBelow.trans (k9.below Ml.size ρy)⟩
      ·go_wp2;go_roundw;case rel=>exact⟨a++[c],r,by rw[qL,MQ.out];go_num,by rw[Kq.out];simp,λ_ i hi=>(qM.1 hi).elim (MJ.out (by first|rfl|trivial) i) (λh=>by rw[qS.1 h];exact RX.out),ρB,ρB,ZF.below ρE,Z'.below ρE,Ml.step0 ρE⟩
       case measure=>exact ξb
theorem ph (x:CD)(i:Int):∀L:List CD,fc (fD x L) i=if i=x.id then some x else fc L i
 | []=>by simp[fD,fc]
 | c::r=>by
  have ih:=ph x i r;unfold fD;by_cases h:x.id=c.id
  ·rw[qP h];simp only[fc];by_cases e:i=x.id
   ·rw[qP e,qP e]
   ·rw[qI e,qI e,qI ρa]
  ·rw[qI h];exact ηY
theorem iV {p:CD->Bool} {id:Int} (hp:∀c,p c=true↔c.id≠id)(i:Int):∀L:List CD,fc (L.filter p) i=if i=id then none else fc L i
 | []=>by simp[fc]
 | c::r=>by
  have ih:=iV hp i r;rw[List.filter_cons];by_cases h:p c=true
  ·have:=(hp c).1 h;rw[qP h];exact ηY
  ·have:c.id=id:=Dl λg=>h ((hp c).2 g);rw[qI h,ih];by_cases e:i=id
   ·rw[qP e,qP e]
   ·rw[qI e,qI e];simp only[fc];rw[qI ρa]
theorem BB (id i:Int)(L:List CD):fc (rz id L) i=if i=id then none else fc L i:=iV ρp i L
theorem tK (i:Int)(b:List CD):∀a:List CD,fc (a++b) i=match fc a i with|some c=>some c|none=>fc b i
 | []=>rfl
 | c::r=>by
  simp only[List.cons_append,fc];by_cases e:i=c.id
  ·rw[qP e,qP e]
  ·rw[qI e,qI e];exact tK i b r
theorem iW (x:CD)(i:Int):∀(L:List CD)(d:Bool),fc (bU x d L) i=if i=x.id then (if d=true then none else some x) else fc L i
 | [],d=>by cases d<;>simp[bU,fc]
 | c::r,d=>by
  have ih:=iW x i r (d || decide (x.id<=c.id));unfold bU;rw[tK,tK,ih];simp only[fc];by_cases h3:i=x.id
  ·subst h3;rw[qP rfl,qP rfl];by_cases h2:c.id=x.id
   ·cases d with
    | true=>rw[qI ρp,qP h2];simp[fc]
    | false=>rw[qP ⟨rfl,by omega⟩];simp[fc]
   ·rw[qI h2];have h4:¬x.id=c.id:=λe=>h2 e.symm;cases d with
    | true=>rw[qI ρp];simp[fc,h4]
    | false=>
     by_cases h1:x.id<=c.id
     ·rw[qP ⟨rfl,h1⟩];simp[fc]
     ·rw[qI (λg=>h1 g.2)];simp[fc,h4,h1]
  ·rw[qI h3,qI h3];have e1:fc (if d=false/\x.id<=c.id then [x] else []) i=none:=by split<;>simp[fc,h3]
   rw[e1];by_cases h2:c.id=x.id
   ·rw[qP h2,qI ρa];rfl
   ·rw[qI h2];by_cases h4:i=c.id
    ·rw[qP h4];simp[fc,h4]
    ·rw[qI h4];simp[fc,h4]
theorem jz {L:List CD} {i:Int}:fc L i=none↔i ∉ L.map CD.id:=by
 induction L with
 | nil=>simp[fc]
 | cons c r ih=>
  simp only[fc,eJ,qC,not_or];by_cases e:i=c.id
  ·rw[qP e];simp[e]
  ·rw[qI e,ih];simp[e]
theorem eU {L:List CD} (h:(L.map CD.id).Nodup):∀c ∈ L,fc L c.id=some c:=by
 induction L with
 | nil=>intro c hc;cases hc
 | cons a r ih=>
  intro c hc;rw[eJ,qD] at h;simp only[fc];rcases qC.1 hc with e|e
  ·rw[qP (by rw[e]),e]
  ·rw[qI (λg=>h.1 (by rw[<- g];exact List.mem_map.2 ⟨c,e,rfl⟩))];exact ih h.2 c e
theorem mC (x:CD):∀{L:List CD},(L.map CD.id).Nodup->((fD x L).map CD.id).Nodup
 | [],_=>by simp[fD]
 | c::r,h=>by
  rw[eJ,qD] at h;unfold fD;by_cases e:x.id=c.id
  ·rw[qP e,eJ,qD,e];exact h
  ·rw[qI e,eJ,qD];refine⟨?_,mC x h.2⟩;rw[<- jz,ph,qI ρa];exact jz.2 h.1
theorem jA (p:CD->Bool) {L:List CD} (h:(L.map CD.id).Nodup):((L.filter p).map CD.id).Nodup:=h.sublist (List.filter_sublist.map _)
theorem gU (x:CD):∀{L:List CD} (d:Bool),(L.map CD.id).Nodup->((bU x d L).map CD.id).Nodup
 | [],d,_=>by cases d<;>simp[bU]
 | c::r,d,h=>by
  rw[eJ,qD] at h;have ih:=gU x (d || decide (x.id<=c.id)) h.2;have hx:d=true\/x.id<=c.id->x.id ∉ (bU x (d || decide (x.id<=c.id)) r).map CD.id:=λg=>by rw[<- jz,iW,qP rfl,qP (by rcases g with g|g<;>simp[g])]
  have hc:c.id≠x.id->c.id ∉ (bU x (d || decide (x.id<=c.id)) r).map CD.id:=λg=>by rw[<- jz,iW,qI g];exact jz.2 h.1
  unfold bU;generalize hP:bU x (d || decide (x.id<=c.id)) r=P at ih hx hc;by_cases h1:d=false/\x.id<=c.id<;>by_cases h2:c.id=x.id
  ·simp only[qP h1,qP h2,qA,List.singleton_append,eJ,qD];exact⟨hx (.inr h1.2),ih⟩
  ·simp only[qP h1,qI h2,List.singleton_append,List.cons_append,List.nil_append,eJ,qD,qC,not_or];exact⟨⟨λg=>h2 g.symm,hx (.inr h1.2)⟩,hc h2,ih⟩
  ·simp only[qI h1,qP h2,List.nil_append];exact ih
  ·simp only[qI h1,qI h2,List.nil_append,List.singleton_append,eJ,qD];exact⟨hc h2,ih⟩
theorem gB (x:CD):∀(L:List CD)(d:Bool),(bU x d L).length<=L.length+(if d=true then 0 else 1)
 | [],d=>by cases d<;>simp[bU]
 | c::r,d=>by have ih:=gB x r (d || decide (x.id<=c.id));unfold bU;cases d<;>by_cases h1:x.id<=c.id<;>by_cases h2:c.id=x.id<;>simp[h1,h2] at ih ⊢<;>omega
def lR (k:Int)(x:CD)(L M:List CD):Prop:=(k=1/\CW x L/\M=bU x false L)\/(k=2/\(∃d,fc L x.id=some d)/\(∀a ∈ L,a.par≠x.id)/\M=L.filter (λc:CD=>c.id !=x.id))\/(k=3/\Da x L/\M=bU x false L)
def dA:List (Int × CD)->List CD->List CD->Prop
 | [],L,M=>M=L
 | c::r,L,M=>∃K,lR c.1 c.2 L K/\dA r K M
theorem dA.snoc {k:Int} {x:CD}:∀{a:List (Int × CD)} {L M N:List CD},dA a L M->lR k x M N->dA (a++[(k,x)]) L N
 | [],L,M,N,h,g=>by cases h;exact⟨N,g,rfl⟩
 | c::r,L,M,N,⟨K,h1,h2⟩,g=>⟨K,h1,h2.snoc g⟩
theorem ru (x c:CD):∀(L:List CD)(d:Bool),c ∈ bU x d L->c=x\/c ∈ L
 | [],d,h=>by cases d<;>simp[bU] at h;exact .inl h
 | a::r,d,h=>by
  unfold bU at h;rcases qM.1 h with h|h
  ·rcases qM.1 h with h|h
   ·split at h
    ·exact .inl (qS.1 h)
    ·cases h
   ·split at h
    ·cases h
    ·exact .inr (by rw[qS.1 h];simp)
  ·exact(ru x c r _ h).imp id (λg=>by simp[g])
theorem lR.keep {k:Int} {x:CD} {L M:List CD} (s:lR k x L M)(hx:CN x)(hq:∀c ∈ L,CN c):M.length<=L.length+1/\∀c ∈ M,CN c:=by
 have hp:(bU x false L).length<=L.length+1/\∀c ∈ bU x false L,CN c:=⟨gB x L false,λc hc=>(ru x c L false hc).elim (λe=>e ▸ hx) (hq c)⟩;rcases s with ⟨_,_,rfl⟩|⟨_,_,_,rfl⟩|⟨_,_,rfl⟩
 ·exact hp
 ·exact⟨qK (qH _ _) ρa,λc hc=>hq c (qE.1 hc).1⟩
 ·exact hp
theorem IT (v:ϗ)(L:List CD)(k:Int)(x:CD)(hx:CN x)(hq:∀c ∈ L,CN c)(w:ϖ)(B:Nat)(G:aK 14 eN w B v L)(hl:L.length<=1000):Calls Ψ 45 #[v,φ #[ι ε k,ι ε x.id,ι ε x.par,β x.lf,x.r0,x.r1,x.r2,x.l0,x.l1,x.l2,x.u0,x.u1,x.u2,ι ε x.pk,ι ε x.by_]] w λe w'=>∃sa sn sc m,e=ϰ (φ #[ζ sa sn sc,ι ε m])/\(m=0->∃M,ae 43 14 eN w' w (ζ sa sn sc) M/\lR k x L M)/\Below w w w':=by
 obtain⟨oa,oc,rfl,-⟩:=G.slice;refine δh ?_;clear G hl;intro n hn G hl zB;by_cases c1:k=1
 ·subst c1;go_in;go_wp2_with fail;refine Jc (θ2 (Ks (λ_=>False) w) G) (λv=>ah v w #[Ko,ι ε x.id,ι ε x.par,β x.lf,x.r0,x.r1,x.r2,x.l0,x.l1,x.l2,x.u0,x.u1,x.u2,ι ε x.pk,ι ε x.by_] 86/\ah v (w+1) #[Kn,Kz] 112) ⟨ρB,ρB⟩ ?_;rintro v1 ⟨C1,R1⟩ ⟨I',G1⟩;have Rr:=θ2 C1.r R1.r;have hR1:=R1.size;refine(IQ _ L x hx hq v1 B G1 ρa).mono ?_;rintro e v2 ⟨sa,sn,sc,m,rfl,hm,kx⟩;clear Rr;obtain⟨⟨G2,C2,R2,J'⟩,Rr⟩:=Mx kx (θ4 G1 C1 R1 I');clear kx;have zv1:w.heap.size<=v2:=by have:=J'.size;exact this
  have z01:=I'.size;go_wp2_with fail;refine δr ?_;intro v9 R9 k9 Mh;refine⟨sa,sn,sc,m,rfl,λh=>?_,J'.toBelow.trans (k9.below J'.size ρy)⟩;refine δS ?_;intro YJ hm HG;exact⟨bU x false L,HG,.inl ⟨rfl,hm.out.2,rfl⟩⟩
 by_cases c2:k=2
 ·subst c2;go_in;go_wp2_with fail;refine Jc (θ2 (Ks (λ_=>False) w) G) (λv=>ah v w #[ι ε 2,ι ε x.id,ι ε x.par,β x.lf,x.r0,x.r1,x.r2,x.l0,x.l1,x.l2,x.u0,x.u1,x.u2,ι ε x.pk,ι ε x.by_] 86/\ah v (w+1) #[Kn,Kz] 112) ⟨ρB,ρB⟩ ?_;rintro v1 ⟨C1,R1⟩ ⟨I',G1⟩;have Rr:=θ2 C1.r R1.r;have hR1:=R1.size;refine(IY _ L x.id v1 B G1 ρa).mono ?_;rintro e v2 ⟨sa,sn,sc,m,rfl,hm,kx⟩;clear Rr;obtain⟨⟨G2,C2,R2,J'⟩,Rr⟩:=Mx kx (θ4 G1 C1 R1 I');clear kx;have zv1:w.heap.size<=v2:=by have:=J'.size;exact this
  have z01:=I'.size;go_wp2_with fail;refine δr ?_;intro v9 R9 k9 Mh;refine⟨sa,sn,sc,m,rfl,λh=>?_,J'.toBelow.trans (k9.below J'.size ρy)⟩;refine δS ?_;intro YJ hm HG;exact⟨L.filter (λc:CD=>c.id !=x.id),HG,.inr (.inl ⟨rfl,hm.out.2.1,hm.out.2.2,rfl⟩)⟩
 by_cases c3:k=3
 ·subst c3;go_in;go_wp2_with fail;refine Jc (θ2 (Ks (λ_=>False) w) G) (λv=>ah v w #[ι ε 3,ι ε x.id,ι ε x.par,β x.lf,x.r0,x.r1,x.r2,x.l0,x.l1,x.l2,x.u0,x.u1,x.u2,ι ε x.pk,ι ε x.by_] 86/\ah v (w+1) #[Kn,Kz] 112) ⟨ρB,ρB⟩ ?_;rintro v1 ⟨C1,R1⟩ ⟨I',G1⟩;have Rr:=θ2 C1.r R1.r;have hR1:=R1.size;refine(IV _ L x hx hq v1 B G1 ρa).mono ?_;rintro e v2 ⟨sa,sn,sc,m,rfl,hm,kx⟩;clear Rr;obtain⟨⟨G2,C2,R2,J'⟩,Rr⟩:=Mx kx (θ4 G1 C1 R1 I');clear kx;have zv1:w.heap.size<=v2:=by have:=J'.size;exact this
  have z01:=I'.size;go_wp2_with fail;refine δr ?_;intro v9 R9 k9 Mh;refine⟨sa,sn,sc,m,rfl,λh=>?_,J'.toBelow.trans (k9.below J'.size ρy)⟩;refine δS ?_;intro YJ hm HG;exact⟨bU x false L,HG,.inr (.inr ⟨rfl,hm.out.2,rfl⟩)⟩
 have d1:(k==1)=false:=qN.2 c1;have d2:(k==2)=false:=qN.2 c2;have d3:(k==3)=false:=qN.2 c3;go_in;go_upto_region 2 with fail;refine Jw (θ2 (Ks (λ_=>False) w) G) (λv=>ah v w #[ι ε k,ι ε x.id,ι ε x.par,β x.lf,x.r0,x.r1,x.r2,x.l0,x.l1,x.l2,x.u0,x.u1,x.u2,ι ε x.pk,ι ε x.by_] 86/\ah v (w+1) #[Kn,Kz] 112) ⟨ρB,ρB⟩ ?_;rintro v1 ⟨C1,R1⟩ ⟨I',G1⟩;have Rr:=θ2 C1.r R1.r;go_wp2_with fail;refine eR v1 (λx=>x=(w.heap.size+1)) (λv=>ah v ((w+1)) #[ζ oa n oc,Ko] 112) ρB (λ_ kx=>kx) ?_;rintro v9 R9 k9;have Mh:=R9.cell;refine qO (v:=φ #[ζ oa n oc,Ko]) τt rfl ?_;exact⟨_,_,_,1,rfl,λh=>ax h ρf,I'.toBelow.trans (k9.below I'.size ρy)⟩
end Go.Proofs.YtfdlemkplejdnaaGreat
