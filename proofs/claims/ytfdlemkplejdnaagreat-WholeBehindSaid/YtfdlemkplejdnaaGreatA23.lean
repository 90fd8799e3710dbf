/- WholeBehind, part 23. Conditions: none. -/
import Derived.Test.YtfdlemkplejdnaaGreatA20
import Derived.Test.YtfdlemkplejdnaaGreatA21
import Derived.ArgAppend
import Derived.Laws.IdiomCopy
namespace Go.Proofs.YtfdlemkplejdnaaGreat
open Go.RowKit Go.Sort
open Value renaming int->ι,pointer->ψ,slice->ζ,tuple->χ,agg->φ,map->μ,bool->β
open IntKind renaming u64->υ,i64->ε,u16->ω
open Ending renaming returned->ϰ
open Go.Proofs.Tryz renaming prog->Ψ,underlying3->Θ,underlying147->Δ,underlying152->Γ,underlying202->Φ,underlying39->Ξ,underlying207->Ω
open Go renaming World->ϖ,Value->ϗ
set_option linter.unusedVariables false
set_option linter.unusedSimpArgs false
set_option maxHeartbeats 8000000
set_option maxRecDepth 100000
section
variable {α:Type} {n:Nat} {enc:α->List ϗ}
def az (n:Nat)(enc:α->List ϗ)(w:ϖ)(B:Nat)(v:ϗ)(L:List α):Prop:=∃a IM,v=ζ a L.length IM/\L.length<=maxLen/\B<=w/\(a=none->IM=0/\L=[])/\(L≠[]->∃g II,a=some ⟨g,II,none⟩/\g<B/\yL n enc w g II L)
theorem az.belowK {w v:ϖ} {B K:Nat} {x:ϗ} {L:List α} (h:az n enc w B x L)(k:Below K w v)(hK:B<=K):az n enc v B x L:=by obtain⟨a,IM,h1,h2,h3,h5,h4⟩:=h;refine⟨a,IM,h1,h2,ZK h3 k.size,h5,λhn=>?_⟩;obtain⟨g,II,e,hg,Lq⟩:=h4 hn;exact⟨g,II,e,hg,Lq.below k ρa⟩
theorem az.below {w v:ϖ} {B:Nat} {x:ϗ} {L:List α} (h:az n enc w B x L)(k:Below w w v):az n enc v B x L:=h.belowK k (by obtain⟨_,_,_,_,h3,_⟩:=h;exact h3)
instance {α:Type} {n} {enc:α->List ϗ} {w B x} {L:List α}:Mv (az n enc w B x L) w (λv'=>az n enc v' B x L):=⟨λk h=>az.below h k⟩
theorem az.ko {w v:ϖ} {B:Nat} {x:ϗ} {L:List α} {F:Nat->Prop} (h:az n enc w B x L)(k:KO F w v)(hF:∀y,y<B->¬F y):az n enc v B x L:=by
 have h3:B<=w:=by obtain⟨_,_,_,_,h3,_⟩:=h;exact h3
 exact az.belowK h (k.below h3 hF) (ZR _)
theorem az.slice {w:ϖ} {B:Nat} {x:ϗ} {L:List α} (h:az n enc w B x L):∃a IM,x=ζ a L.length IM/\L.length<=maxLen:=by obtain⟨a,IM,h1,h2,_⟩:=h;exact⟨a,IM,h1,h2⟩
theorem az.nil (w:ϖ):az n enc w 0 Kn []:=⟨none,0,rfl,by simp[maxLen],Nat.zero_le _,λ_=>⟨rfl,rfl⟩,λh=>ax rfl h⟩
theorem az.at {w:ϖ} {B:Nat} {a:Option Addr} {m IM:Nat} {L:List α} (h:az n enc w B (ζ a m IM) L) {i:Nat} {x:α} (hi:L[i]?=some x):∃g II,a=some ⟨g,II,none⟩/\g<B/\w.rangeAt g (II+i*n) (enc x):=by obtain⟨a',QJ,h1,h2,h3,_,h4⟩:=h;have e:=(ZV h1).1;subst e;obtain⟨g,II,e,hg,Lq⟩:=h4 (λe=>by rw[e] at hi;simp at hi);exact⟨g,II,e,hg,λj u hj=>Lq i x hi j u hj⟩
theorem az.rng {w:ϖ} {B g II m IM:Nat} {L:List α} (h:az n enc w B (ζ (some ⟨g,II,none⟩) m IM) L) {i:Nat} {x:α} (hi:L[i]?=some x):w.rangeAt g (II+i*n) (enc x):=by obtain⟨g',off',e,_,h2⟩:=h.at hi;cases e;exact h2
theorem az.cell {w:ϖ} {B g II m IM:Nat} {L:List α} (h:az n enc w B (ζ (some ⟨g,II,none⟩) m IM) L) {i:Nat} {x:α} (hi:L[i]?=some x)(j:Nat) {u:ϗ} (hu:(enc x)[j]?=some u):w.cell? ⟨g,II+i*n+j,none⟩=some u:=h.rng hi j u hu
theorem az.some {w:ϖ} {B m IM:Nat} {a:Option Addr} {L:List α} (h:az n enc w B (ζ a m IM) L)(IX:L≠[]):∃g II,a=some ⟨g,II,none⟩:=by obtain⟨a',QJ,h1,_,_,_,h4⟩:=h;obtain⟨g,II,e,_,_⟩:=h4 IX;exact⟨g,II,by rw[(ZV h1).1,e]⟩
theorem ae.rd {e:TypeId} {w:ϖ} {base:Nat} {v:ϗ} {L:List α} (h:ae e n enc w base v L)(hn:∀x,(enc x).length=n):az n enc w w v L:=by
 obtain⟨a,IM,g,h1,h2,h3,h4,h5⟩:=h.at hn;obtain⟨_,hh⟩:=h;have hm:L.length<=maxLen/\(a=none->IM=0/\L=[]):=by
  rcases hh with ⟨hv,h0⟩|⟨g',QJ,Lp,hv,_,_,hc,hm,_⟩
  ·rw[h0];refine⟨Nat.zero_le _,λ_=>?_⟩;rw[h1] at hv;exact⟨(ZV hv).2.2,List.length_eq_zero_iff.1 h0⟩
  ·refine⟨by omega,λha=>?_⟩;rw[h1,ha] at hv;exact ax (ZV hv).1 ρp
 exact⟨a,IM,h1,hm.1,ZR _,hm.2,λIX=>⟨g,0,h3 IX,h4 IX,h5⟩⟩
theorem ae.zero {e:TypeId} {w:ϖ} {base g:Nat} (h:ah w g #[] e)(hb:base<=g):ae e n enc w base (ζ g 0 0) []:=
 ⟨by simp,.inr ⟨g,0,#[],rfl,hb,h,ZR _,by unfold maxLen;omega,by simp,by simp⟩⟩
end
open Go.Lib in
theorem jV {α:Type} {e:TypeId} {n:Nat} {enc:α->List ϗ} {st:TypeId} {by_:Nat} {z:ϗ} (hu:Ψ.underlying st=some (.slice e))(OM:(Ψ.info? e).map (λi=>(i.zero,i.size,i.bytes))=some (some z,n,by_))(hz:z.cells.size=n)(hn:∀x,(enc x).length=n)(h1:∀x,∀u ∈ enc x,u.oneCell'=true)(Kv:0<n)(XO:by_<=1000)
  {w:ϖ} {IA:Array Oper} {rest:List Oper} {o:Oper} {a:Act} {Q:Exit->Act->ϖ->Prop} (Ld:o.guard=none) (sl x:Operand)
  (ho:o.op=.call {callee:=.builtin .append,args:=#[sl,x],argTypes:=#[st,st]})
  (base B:Nat) (v y:ϗ) (s L:List α) (hs:a.eval sl=v) (hx:a.eval x=y) (h:ae e n enc w base v s) (hR:az n enc w B y L) (Kw:s.length+L.length<=1000000) (LQ:base<=w)
  (hk:∀v' w',ae e n enc w' base v' (s++L)->KO (λx=>some x=v.ownBlock) w w'->wpList Ψ IA Q rest (a.put o.dst v') w'):wpList Ψ IA Q (o::rest) a w:=by
 refine wpList_plain Ld λK hK=>?_;obtain⟨i,hi,q⟩:=Option.map_eq_some_iff.1 OM;simp only[Prod.mk.injEq] at q;obtain⟨ya,IM,rfl,hm,hB,QR,Lq⟩:=hR;cases ya with
 | none=>
  obtain⟨rfl,rfl⟩:=QR rfl;have hr:(Builtin.append_ #[st,st] o.type #[v,Kn]).run Ψ w=.ok v w:=by
   rcases h.2 with ⟨rfl,_⟩|⟨g,IM,Lp,rfl,hg,hh,hc,hm,Ja,ht⟩
   ·simp[Builtin.append_,run_underlying hu,Result.andThen,go_sem,sizeOf,typeInfo,hi]
   ·have:s.length+0<=IM:=by omega
    simp[Builtin.append_,run_underlying hu,Result.andThen,go_sem,sizeOf,typeInfo,hi,hc]
  unfold Oper.wp execOp;simp only[ho,resolve,invoke,builtin,Sem.run_bind,Sem.run_pure,Result.andThen_ok,List.map_toArray,gY,List.map_nil,hs,hx,List.length_nil,hr];exact hK _ _ (hk _ _ (by rw[ZA];exact h) (KO.refl _ _))
 | some ad=>
  obtain⟨v',w',hr,h2,h3,_⟩:=run_append_own_at (P:=Ψ) w base st o.type e i z n by_ hu hi q.1 q.2.1 q.2.2 hz Kv v s.length (s.flatMap enc) h ad L.length IM (L.flatMap enc) (f7 hn L) (λj u hj=>by
   have IX:L≠[]:=λe=>by rw[e] at hj;simp at hj
   obtain⟨g,II,e,hg,hA⟩:=Lq IX;cases e
   rw[Addr.add_mid];exact yL.flat hn Kv hA j u hj) σK σ1 κk LQ
  refine δd ?_;refine hK _ _ (hk v' w' ?_ ⟨h3.os,h3.tape,h3.output,h3.size,λk hk IX=>h3.block k hk IX⟩);unfold ae;rw[ZL,List.flatMap_append];exact h2
theorem dD {P:Program} {IA:Array Oper} {rest:List Oper} {op:Oper} {a:Act} {v:ϖ} {Q:Act->Prop} (ty:TypeId)(x:Operand)(g o:Nat)(cs:List ϗ)(d:TypeDesc)
  (ho:op.op=.load ty x) (hw:Region.wanted op (yielded IA a.tmps)=true) (hx:a.eval x=ψ (some ⟨g,o,none⟩)) (hA:∀w',Below v v w'->w'.rangeAt g o cs) (hu:P.underlying ty=some d) (hd:d.isRow=true) (hi:(P.info? ty).map (·.size)=some cs.length)
  (h:wpQuiet P IA (λw'=>∃p:Regrown,w'=grow (redrawn v p.d) p.os) Q rest (a.put op.dst (φ cs.toArray))):wpQuiet P IA (λw'=>∃p:Regrown,w'=grow (redrawn v p.d) p.os) Q (op::rest) a:=by
 refine wpQuiet_step λK hK=>?_;rw[ZP hw];refine⟨φ cs.toArray,λw' NG=>?_,hK _ h⟩;obtain⟨p,rfl⟩:=NG;have hl:=run_loadVar_mid (P:=P) (grow (redrawn v p.d) p.os) g o ty cs d (hA _ (ZW _ _ _)) hu hd hi;unfold Oper.quietAt execOp;simp only[ho,hx,Instr.loadAt,Instr.sureAddr,Sem.run_bind,Sem.run_pure,Result.andThen_ok,hl,Oper.quietUpon];exact⟨trivial,by simp⟩
abbrev DJ (u:ϗ):Prop:=∃k:Int,u=ι υ k
def QS (w:ϖ)(fp:Nat->Prop)(N:Nat)(v:ϗ):Prop:=v=Kn\/∃(g II n IM:Nat)(cs:Array ϗ),v=ζ (some ⟨g,II,none⟩) n IM/\ah w g cs 39/\II+IM<=cs.size/\n<=IM/\n<=N/\IM<=maxLen/\(∀(i:Nat) u,cs[i]?=some u->DJ u)/\fp g
theorem QS.mono {w w':ϖ} {fp MK:Nat->Prop} {N N':Nat} {v:ϗ} (h:QS w fp N v)(hN:N<=N')(hf:∀x,fp x->MK x)(hb:∀g cs,fp g->ah w g cs 39->(∀(i:Nat) u,cs[i]?=some u->DJ u)->∃cs',ah w' g cs' 39/\cs.size<=cs'.size/\∀(i:Nat) u,cs'[i]?=some u->DJ u):QS w' MK N' v:=by
 rcases h with h|⟨g,II,n,IM,cs,e,h1,h2,h3,h4,h5,h6,h7⟩
 ·exact .inl h
 ·obtain⟨cs',k1,k2,k3⟩:=hb g cs h7 h1 h6;exact .inr ⟨g,II,n,IM,cs',e,k1,by omega,h3,by omega,h5,k3,hf _ h7⟩
theorem QS.of_ko {w w':ϖ} {fp MK F:Nat->Prop} {N N':Nat} {v:ϗ} (h:QS w fp N v)(hN:N<=N')(hf:∀x,fp x->MK x)(k:KO F w w')(hF:∀g cs,fp g->ah w g cs 39->¬F g):QS w' MK N' v:=
 h.mono hN hf λg cs hg hb hu=>⟨cs,(k.block g hb.size (hF g cs hg hb)).trans hb,ZR _,hu⟩
def aY (w:ϖ)(B:Nat)(fp:Nat->Prop)(N:Nat):Prop:=∃(MC MR:Nat)(LC LR:List (Int × ϗ)),ah w B #[.map (some MC),.map (some MR)] 171/\aA w MC LC/\aA w MR LR/\(∀p ∈ LC,QS w fp N p.2)/\(∀p ∈ LR,∃a b c d e:Int,p.2=φ #[a,b,c,d,e])/\fp B/\fp MC/\fp MR/\MC≠MR/\∀x,fp x->x<w.heap.size
theorem aY.ko {w w':ϖ} {B N:Nat} {fp F:Nat->Prop} (h:aY w B fp N)(k:KO F w w')(hF:∀x,fp x->¬F x):aY w' B fp N:=by obtain⟨MC,MR,LC,LR,h1,h2,h3,h4,h5,h6,h7,h8,h9,PB⟩:=h;exact⟨MC,MR,LC,LR,(k.block B h1.size (hF _ h6)).trans h1,h2.ko k (hF _ h7),h3.ko k (hF _ h8),λp hp=>(h4 p hp).of_ko (ZR _) (λ_ h=>h) k (λg _ hg _=>hF g hg),h5,h6,h7,h8,h9,λx hx=>ZB (PB x hx) k.size⟩
theorem aY.below {w w':ϖ} {B N:Nat} {fp:Nat->Prop} (h:aY w B fp N)(k:Below w w w'):aY w' B fp N:=h.ko (KO.of_below (F:=λ_=>False) k) (λ_ _ f=>f)
instance {w B fp N}:Mv (aY w B fp N) w (λv'=>aY v' B fp N):=⟨λk h=>aY.below h k⟩
theorem aY.mono {w:ϖ} {B N N':Nat} {fp:Nat->Prop} (h:aY w B fp N)(hN:N<=N'):aY w B fp N':=by obtain⟨MC,MR,LC,LR,h1,h2,h3,h4,h5,h6,h7,h8,h9,PB⟩:=h;exact⟨MC,MR,LC,LR,h1,h2,h3,λp hp=>(h4 p hp).of_ko hN (λ_ h=>h) (KO.refl (λ_=>False) w) (λ_ _ _ _ f=>f),h5,h6,h7,h8,h9,PB⟩
theorem oH {k:Int} {v:ϗ}:∀{L:List (Int × ϗ)},lk k L=some v->∃p ∈ L,p.2=v
 | [],h=>by simp[lk] at h
 | (j,u)::r,h=>by
  unfold lk at h;by_cases e:k=j
  ·rw[ZP e] at h;cases h;exact⟨(j,_),List.mem_cons_self ..,rfl⟩
  ·rw[ZI e] at h;obtain⟨p,hp,e⟩:=oH h;exact⟨p,rt _ hp,e⟩
theorem jq {k:Int} {v:ϗ}:∀{L:List (Int × ϗ)} {p:Int × ϗ},p ∈ dH k v L->p.2=v\/p ∈ L
 | [],p,h=>by simp[dH] at h;subst h;exact .inl rfl
 | (j,u)::r,p,h=>by
  unfold dH at h;by_cases e:k=j
  ·rw[ZP e] at h;rcases ZC.1 h with h|h
   ·subst h;exact .inl rfl
   ·exact .inr (by simp[h])
  ·rw[ZI e] at h;rcases ZC.1 h with h|h
   ·exact .inr (by simp[h])
   ·rcases jq h with h|h
    ·exact .inl h
    ·exact .inr (by simp[h])
theorem QS.look {w:ϖ} {fp:Nat->Prop} {N:Nat} {LC:List (Int × ϗ)} (h:∀p ∈ LC,QS w fp N p.2)(k:Int):QS w fp N ((lk k LC).getD Kn):=by
 cases e:lk k LC with
 | none=>exact .inl rfl
 | some v=>obtain⟨p,hp,rfl⟩:=oH e;exact h p hp
theorem yn:(Ψ.info? 39).map (λi=>(i.zero,i.size,i.bytes))=some (some (ι υ 0),1,8):=by kernel_rfl
theorem oV {w:ϖ} {fp:Nat->Prop} {N:Nat} {v:ϗ} (h:QS w fp N v)(hN:N<=1000000)(IJ:∀x,fp x->x<w.heap.size) {X:Nat} {k:Int} (hX:ah w X #[k] 39)(ty:TypeId):
  ∃v' w',(Builtin.append_ #[197,197] ty #[v,ζ X 1 1]).run Ψ w=.ok v' w'/\QS w' (λx=>fp x\/(w<=x/\x<w')) (N+1) v'/\
   (∀u,QS w fp N u->QS w' (λx=>fp x\/(w<=x/\x<w')) (N+1) u)/\∃F:Nat->Prop,KO F w w'/\∀x,F x->fp x/\∃cs,ah w x cs 39:=by
 obtain⟨i,hi,q⟩:=Option.map_eq_some_iff.1 yn;simp only[Prod.mk.injEq] at q;have Uq:∀(v:ϖ),v.heap[X]?=w.heap[X]?->∀(j:Nat) u,[Value.int .u64 k][j]?=some u->v.cell? ((⟨X,0,none⟩:Addr).add j)=some u:=λv hv j u hj=>by rw[Addr.add_mid,ah.cell (hv.trans hX),Nat.zero_add,<- Array.getElem?_toList];exact hj
 have Wv:∀u ∈ [Value.int .u64 k],u.oneCell'=true:=λu hu=>by simp at hu;subst hu;rfl
 have hkeep:∀{w':ϖ},Below w w w'->(∀u,QS w fp N u->QS w' (λx=>fp x\/(w<=x/\x<w')) (N+1) u):=λb u hu=>hu.of_ko ρa (λ_ h=>.inl h) (KO.of_below (F:=λ_=>False) b) (λ_ _ _ _ f=>f);have XX:∀(Nf:List ϗ) (n IM:Nat),(∀u ∈ Nf,DJ u)->Nf.length=n->n<=N->IM<n+1->∀v' w',v'=ζ w (n+1) (grownCap w (n+1) IM 39)->w'=w.drew.alloc (.cells (Nf.toArray++[Value.int .u64 k].toArray++Builtin.zeroCells (Value.int .u64 0).cells (grownCap w (n+1) IM 39 - (n+1))) 39)->
   QS w' (λx=>fp x\/(w<=x/\x<w')) (N+1) v'/\(∀u,QS w fp N u->QS w' (λx=>fp x\/(w<=x/\x<w')) (N+1) u)/\∃F:Nat->Prop,KO F w w'/\∀x,F x->fp x/\∃cs,ah w x cs 39:=by
  rintro Nf n IM hou Wu hn hc v' w' rfl rfl;have hb:Below w w (w.drew.alloc (.cells (Nf.toArray++[Value.int .u64 k].toArray++Builtin.zeroCells (Value.int .u64 0).cells (grownCap w (n+1) IM 39 - (n+1))) 39)):=ρE;have XW:=grownCap_ge w (n+1) IM 39;refine⟨.inr ⟨w,0,n+1,_,_,rfl,ρB,?_,XW,by omega,grownCap_le_maxLen _ _ _ _ σ1,?_,.inr ⟨ZR _,by simp⟩⟩,hkeep hb,λ_=>False,KO.of_below hb,λ_ f=>f.elim⟩
  ·simp only[Array.size_append,List.size_toArray,size_zeroCells,Wu];simp[Value.cells];omega
  ·intro j u hj;have hu:=Array.mem_of_getElem? hj;simp only[Array.mem_append,List.mem_toArray] at hu;rcases hu with (hu|hu)|hu
   ·exact hou u hu
   ·simp at hu;exact⟨k,hu⟩
   ·unfold Builtin.zeroCells at hu;obtain⟨m,_,rfl⟩:=Array.mem_map.1 hu;exact⟨0,by simp[Value.cells,Nat.mod_one]⟩
 rcases h with rfl|⟨g,II,n,IM,cs,rfl,h1,h2,h3,h4,h5,h6,h7⟩
 ·have hr:=run_append_nil (P:=Ψ) w 197 ty 39 i _ Tryz.underlying197 hi q.1 ⟨X,0,none⟩ 1 1 [k] (by rw[q.2.1];rfl) (Uq w rfl) ρa ρa (by rw[q.2.2];omega);exact⟨_,_,hr,XX [] 0 0 (λu hu=>by simp at hu) rfl ρa ρa _ _ rfl ρp⟩
 ·have ML:∀j,w.cell? ⟨g,j,none⟩=cs[j]?:=λj=>h1.cell j;by_cases MP:n+1<=IM
  ·have Kg:II+n<cs.size:=by omega
   have hr:=run_append_room_cells (P:=Ψ) w 197 ty 39 i Tryz.underlying197 hi g II n IM ⟨X,0,none⟩ 1 1 [k] (by rw[q.2.1];rfl) (Uq w rfl) Wv MP (λj hj=>by simp at hj;subst hj;rw[ML,q.2.1];simp[Kg]) (λj hj=>h1.frozen _)
   rw[q.2.1,Nat.mul_one] at hr;have hB:ah (w.setCell ⟨g,II+n,none⟩ k) g (cs.setIfInBounds (II+n) k) 39:=h1.set_same rfl;have hu:∀(i:Nat) u,(cs.setIfInBounds (II+n) k)[i]?=some u->DJ u:=λi u hi=>by
    rw[Array.getElem?_setIfInBounds] at hi;split at hi
    ·cases hi;exact⟨_,rfl⟩
    ·exact h6 i u hi
   have hko:KO (λx=>x=g) w (w.setCell ⟨g,II+n,none⟩ k):=ρK;refine⟨_,_,hr,.inr ⟨g,II,n+1,IM,_,rfl,hB,by simpa using h2,MP,by omega,h5,hu,.inl h7⟩,λu hq=>hq.mono ρa (λ_ h=>.inl h) (λg' cs' hf f' Yi=>?_),λx=>x=g,hko,λx hx=>by subst hx;exact⟨h7,_,h1⟩⟩;by_cases e:g'=g
   ·subst e;have:cs'=cs:=by have:=f'.symm.trans h1;simp at this;exact this
    subst this;exact⟨_,hB,by simp,hu⟩
   ·exact⟨cs',(hko.block g' f'.size e).trans f',ZR _,Yi⟩
  ·obtain⟨Nf,Wu,hoc,hou⟩:∃Nf:List ϗ,Nf.length=n/\(∀(j:Nat) u,Nf[j]?=some u->cs[II+j]?=some u)/\∀u ∈ Nf,DJ u:=by
    refine⟨(cs.toList.drop II).take n,by simp;omega,λj u hj=>?_,λu hu=>?_⟩
    ·have hjn:j<n:=by have:=(List.getElem?_eq_some_iff.1 hj).1;simp at this;omega
     rw[List.getElem?_take_of_lt hjn,List.getElem?_drop,Array.getElem?_toList] at hj;exact hj
    ·obtain⟨j,hj⟩:=List.getElem?_of_mem (List.mem_of_mem_drop (List.mem_of_mem_take hu));rw[Array.getElem?_toList] at hj;exact h6 j u hj
   have hr:=run_append_grow (P:=Ψ) w 197 ty 39 i _ Tryz.underlying197 hi q.1 ⟨g,II,none⟩ n IM Nf (by rw[q.2.1,Nat.mul_one];exact Wu) (λj u hj=>by rw[Addr.add_mid,ML];exact hoc j u hj) ⟨X,0,none⟩ 1 1 [k] (by rw[q.2.1];rfl) (Uq w rfl) ρa ρa (growslice_fits ρa (by rw[q.2.2];omega));exact⟨_,_,hr,XX Nf n IM hou Wu h4 ρa _ _ rfl rfl⟩
theorem mG {IA:Array Oper} {o:Oper} {a:Act} {K:Act->ϖ->Prop} {Q:Exit->Act->ϖ->Prop} {E:Prop} {w:ϖ} (Ld:o.guard=none)(s x:Operand)
  (ho:o.op=.call {callee:=.builtin .append,args:=#[s,x],argTypes:=#[197,197]})
  {fp:Nat->Prop} {N:Nat} {v:ϗ} (hs:a.eval s=v) (h:QS w fp N v) (hN:N<=1000000) (IJ:∀x,fp x->x<w.heap.size) {X:Nat} {k:Int} (hx:a.eval x=ζ X 1 1) (hX:ah w X #[k] 39)
  (hk:∀v' w',QS w' (λx=>fp x\/(w<=x/\x<w')) (N+1) v'->(∀u,QS w fp N u->QS w' (λx=>fp x\/(w<=x/\x<w')) (N+1) u)->(∃F:Nat->Prop,KO F w w'/\∀x,F x->fp x/\∃cs,ah w x cs 39)->K (a.put o.dst v') w'):
  if Region.wanted o (yielded IA a.tmps)=true then Oper.wp Ψ o a w K Q else E:=by
 have hw:Region.wanted o (yielded IA a.tmps)=true:=by simp[Region.wanted,Ld]
 rw[ZP hw];obtain⟨v',w',hr,h1,h2,h3⟩:=oV h hN IJ hX o.type;refine δd ?_;exact hk v' w' h1 h2 h3
def CN (c:CD):Prop:=(0<=c.r0/\0<=c.r1/\0<=c.r2)/\(0<=c.l0/\0<=c.l1/\0<=c.l2)/\(0<=c.u0/\0<=c.u1/\0<=c.u2)
theorem dE {w:ϖ} {b o:Nat} {cs ds:List ϗ} (h:w.rangeAt b o cs)(p n:Nat)(e:(cs.drop p).take n=ds):w.rangeAt b (o+p) ds:=by
 intro j v hj;subst e;have Un:cs[p+j]?=some v:=by
  rw[List.getElem?_take] at hj;split at hj
  ·rwa [List.getElem?_drop] at hj
  ·exact ax hj ρp
 rw[Nat.add_assoc];exact h _ _ Un
abbrev dR (c:CD):List ϗ:=[ι ε c.id,ι ε c.par,β c.lf,ι υ c.r0,ι υ c.r1,ι υ c.r2,ι υ c.l0,ι υ c.l1,ι υ c.l2,ι υ c.u0,ι υ c.u1,ι υ c.u2,ι ε c.pk,ι ε c.by_]
theorem gB (c:CD):∀u ∈ dR c,u.oneCell'=true:=by intro u h;simp[dR] at h;rcases h with rfl|rfl|rfl|rfl|rfl|rfl|rfl|rfl|rfl|rfl|rfl|rfl|rfl|rfl<;>rfl
theorem jJ {p:CD->Bool} {c:CD} (h:p c=false):[c].filter p=[]:=by rw[List.filter_cons,h];rfl
theorem i4 {p:CD->Bool} {c:CD} (h:p c=true):[c].filter p=[c]:=by rw[List.filter_cons,h];rfl
theorem dw:(Ψ.info? 43).map (λi=>(i.zero,i.size,i.bytes))=some (some (φ (kE 0 0 false 0 0 0 0 0 0 0 0 0 0 0)),14,112):=by kernel_rfl
theorem kf (v:ϗ)(L:List CD)(id:Int)(w:ϖ)(B:Nat)(G:az 14 dR w B v L)(hl:L.length<=1000):Calls Ψ 17 #[v,ι ε id] w λe w'=>∃i:Int,e=ϰ (ι ε i)/\(i=-1/\fc L id=none\/∃(k:Nat)(c:CD),i=k/\L[k]?=some c/\fc L id=some c)/\Below w w w':=by
 obtain⟨oa,oc,rfl,-⟩:=G.slice;refine δi ?_;clear G hl;intro n hn G hl zB;go_in;go_wp2_with fail;go_loopw [9] (λk wr=>∃(a b:List CD),k=ι ε (a.length:Nat)/\fc L id=fc b id/\L=a++b/\az 14 dR wr B (ζ oa n oc) L/\Below w w wr) (λk _=>n - (intOf k).toNat);case atStart=>exact⟨[],L,rfl,rfl,rfl,G.below ρE,ρE⟩
 case round=>
  obtain⟨a,b,rfl,hf,IF,G0,IB⟩:=hrel;refine δe ?_;intro zw IK q hq;rw[hq] at IK ⊢;cases b with
  | nil=>refine η8 ?_;intro IJ hd;have PE:fc L id=none:=hf;change Hid _ at IK hf PE;clear IF;go_wp2;go_ret;exact⟨-1,rfl,.inl ⟨rfl,PE.out⟩,IB.trans ρE⟩
  | cons c r=>
   refine δF ?_;intro IJ hd Jm KL;obtain⟨g0,II,rfl,hg,RA⟩:=G0.at Jm;have Na:g0<wr:=ρa;have Jj:=Jm;have hxs':=IF;change Hid _ at IK hq IF Jm hn hxs';replace IB:=KO.of_below (F:=λ_=>False) IB;go_upto_region 3 with (fail);go_upto_region 4 with (refine Go.wpList_load_mid rfl 43 _ rfl g0 (II+q*14) rfl (dR c) _ RA Tryz.underlying43 rfl ρh ?_;try simp only[dR]);refine Jw (θ2 IB G0) (λv=>ah v wr (fx c) 43) ρB ?_;rintro v1 X1 ⟨F',G1⟩;have Rr:=X1.r;by_cases ci:c.id=id
   ·have d1:(c.id==id)=true:=by rw[ci];exact beq_self_eq_true _
    have PE:fc L id=some c:=by rw[hf];unfold fc;rw[ZP ci.symm]
    change Hid _ at hf PE;go_wp2;go_ret;exact⟨q,rfl,.inr ⟨q,c,rfl,Jj,PE.out⟩,(F'.step0 ρE).toBelow⟩
   ·have d1:(c.id==id)=false:=ZN.2 ci;have PE:fc L id=fc r id:=by rw[hf];show (if id=c.id then _ else _)=_;rw[ZI (Ne.symm ci)]
    change Hid _ at hf PE;go_wp2;go_roundw;case rel=>exact⟨a++[c],r,by rw[ZL,hq.out];go_num,PE.out,by rw[IF.out];simp,G1.below ρE,(F'.step0 ρE).toBelow⟩
    case measure=>exact ξc
theorem oP (v:ϗ)(L:List CD)(id:Int)(hq:∀c ∈ L,CN c)(w:ϖ)(B:Nat)(G:az 14 dR w B v L)(hl:L.length<=1000):
  CB 96 #[v,ι ε id] w (β (kh L id)):=by
 obtain⟨oa,oc,rfl,-⟩:=G.slice;refine δi ?_;clear G hl;intro n hn G hl zB;obtain⟨s,hs⟩:=Nq (kh L id);rw[hs];unfold CB;go_in;go_wp2_with fail;refine(kf _ L id _ B (G.below ρE) ρa).mono ?_;rintro e v1 ⟨i,rfl,hi,kx⟩;have F':Below w w v1:=Below.trans ρE kx;have G1:=G.below F';have zv:=F'.size;by_cases ci:id=0
 ·have d1:(id==0)=true:=by rw[ci];rfl
  have Ja:s=true:=by rw[<- hs,ci];unfold kh;cases fc L 0<;>simp
  subst Ja;replace hs:=ag hs;clear hi;go_wp2;go_ret;exact⟨rfl,F'.trans ρE⟩
 ·have d1:(id==0)=false:=ZN.2 ci;rcases hi with ⟨rfl,hf⟩|⟨k,c,rfl,hk,hf⟩
  ·have Ja:s=false:=by rw[<- hs];unfold kh;rw[hf];simp[ci]
   subst Ja;change Hid _ at hs hf;go_wp2;go_ret;exact⟨rfl,F'.trans ρE⟩
  ·have hnn:k<n:=by have:=(List.getElem?_eq_some_iff.1 hk).1;omega
   have IJ:(k:Int)<(n:Int):=ρa;obtain⟨g0,II,rfl,hg,RA⟩:=G1.at hk;have Ku:=List.mem_of_getElem? hk;have JG:=hq c Ku;have RB:v1.rangeAt g0 (II+k*14+6) [c.l0,c.l1,c.l2]:=dE RA 6 3 rfl;have Ja:s=cW (kd c.l0 c.l1 c.l2):=by rw[<- hs];unfold kh;rw[hf];simp[ci]
   obtain⟨kv,LW⟩:=Nq (kd c.l0 c.l1 c.l2);rw[LW] at Ja;change Hid _ at hs hf hk;clear Ku hq;obtain⟨x,hx⟩:=Nq (cW kv);rw[hx] at Ja;subst Ja;have d2:decide (1<kv)=s:=hx;clear hx;have b0:v1.cell? ⟨g0,II+k*14+6,none⟩=some (ι υ c.l0):=RB 0 _ rfl;have b1:v1.cell? ⟨g0,II+k*14+6+1,none⟩=some (ι υ c.l1):=RB 1 _ rfl;have b2:v1.cell? ⟨g0,II+k*14+6+2,none⟩=some (ι υ c.l2):=RB 2 _ rfl;go_wp2_with fail;refine(bi c.l0 c.l1 c.l2 kv _ JG.2.1.1 JG.2.1.2.1 JG.2.1.2.2 LW).mono ?_;rintro e v2 ⟨rfl,ky⟩;go_wp2;go_ret;exact⟨rfl,(F'.trans (ky.mono zv)).trans ρE⟩
def mB:Nat->List CD->Int->List Int
 | 0,_,_=>[]
 | k+1,L,i=>match fc L i with | none=>[] | some c=>i::mB k L c.par
theorem Hl (v:ϗ)(L:List CD)(id:Int)(w:ϖ)(B:Nat)(G:az 14 dR w B v L)(hl:L.length<=1000):Calls Ψ 41 #[v,ι ε id] w λe w'=>∃u,e=ϰ u/\HI w' w u (mB 70 L id)/\Below w w w':=by
 obtain⟨oa,oc,rfl,-⟩:=G.slice;refine δi ?_;clear G hl;intro n hn G hl zB;obtain⟨X,hX⟩:=Nq (mB 70 L id);rw[hX];go_in;go_wp2_with fail;go_loopw [5,6,9] (λo a k wr=>∃(q:Nat) (i:Int) (xs:List Int),k=ι ε q/\q<=70/\a=ι ε i/\X=xs++mB (70 - q) L i/\xs.length=q/\HI wr w o xs/\az 14 dR wr B (ζ oa n oc) L/\Below w w wr) (λ_ _ k _=>70 - (intOf k).toNat);case atStart=>exact⟨0,id,[],rfl,by omega,rfl,hX.symm,rfl,ae.nil _ _,G.below ρE,ρE⟩
 case round=>
  obtain⟨q,i,xs,rfl,hq7,rfl,IF,QX,H0,G0,IB⟩:=hrel;have zw:=IB.size;obtain⟨ob,oe,rfl⟩:=H0.slice;rw[QX] at H0 ⊢;replace hX:=ag hX;by_cases cq:q<70
  rotate_left
  ·have hd:=df ((q:Int)<70);have e0:70 - q=0:=ρa;have NS:X=xs:=by rw[IF,e0];simp[mB]
   subst NS;change Hid _ at IF QX;clear e0;go_wp2;go_ret;exact⟨_,rfl,H0.below ρE,IB.trans ρE⟩
  ·have hd:=dt ((q:Int)<70);obtain⟨p,hp⟩:∃p,70 - q=p+1:=⟨69 - q,by omega⟩;rw[hp] at IF;have hxl7:xs.length<=70:=ρa;change Hid _ at IF QX hp;have zB2:B<=wr:=ρa;go_wp2_with fail;refine(kf _ L i _ B (G0.below ρE) ρa).mono ?_;rintro e v1 ⟨j,rfl,hj,kx⟩;have F':Below wr wr v1:=Below.trans ρE kx;clear kx;obtain⟨G1,H1⟩:=Mw F' (θ2 G0 H0);have zv:=F'.size;rcases hj with ⟨rfl,hf⟩|⟨k,c,rfl,hk,hf⟩
   ·have NS:X=xs:=by rw[IF.out];simp[mB,hf]
    subst NS;replace hf:=ag hf;go_wp2;go_ret;exact⟨_,rfl,H1.below ρE,(IB.trans (F'.mono zw)).trans ρE⟩
   ·have NS:X=(xs++[i])++mB p L c.par:=by rw[IF.out];simp[mB,hf]
    have hnn:k<n:=by have:=(List.getElem?_eq_some_iff.1 hk).1;omega
    have IJ:(k:Int)<(n:Int):=ρa;obtain⟨g0,II,rfl,hg,RA⟩:=G1.at hk;have b0:v1.cell? ⟨g0,II+k*14+1,none⟩=some (ι ε c.par):=RA 1 _ rfl;change Hid _ at hf hk NS;have Iz:KO (λ_=>False) w v1:=KO.of_below (IB.trans (F'.mono zw));have Na:g0<v1:=ρa;have H2:=H1;have G2:=G1;have b2:=b0;clear H1 G1;go_upto_region 7 with (fail);go_upto_region 8 with (refine au Tryz.underlying45 bD rfl (λ_=>rfl) ρI ρf ρf rfl (.tmp 16) (.tmp 18) rfl w (ζ ob q oe) xs i v1 #[ι ε i] rfl ρr ρr (H2.below ρE) ρB ρa ρJ ?_;intro o4 v4 H4 kx;replace kx:=kx.of_alloc;have G4:=G2.ko kx (λy hy=>ae.notown H2 ρa);have IC:KO (λ_=>False) w v4:=Iz.trans kx τ5;have UT:=IC.size);have b4:v4.cell? ⟨g0,II+k*14+1,none⟩=some (ι ε c.par):=G4.rng hk.out 1 _ rfl;clear b0 b2;go_wp2;go_roundw;case rel=>exact⟨q+1,c.par,xs++[i],by go_num,by omega,rfl,by rw[NS.out,show 70 - (q+1)=p by have:=hp.out;omega],by rw[ZL,QX.out];rfl,H4.below ρE,G4.below ρE,IC.toBelow.trans ρE⟩
    case measure=>simp[intOf] at*;omega
theorem nh (v:ϗ)(L:List CD)(id:Int)(w:ϖ)(B:Nat)(G:az 14 dR w B v L)(hl:L.length<=1000):Calls Ψ 98 #[v,ι ε id] w λe w'=>∃u,e=ϰ u/\HI w' w u ((List.filter (λc:CD=>c.par==id) L).map CD.id)/\Below w w w':=by
 obtain⟨oa,oc,rfl,-⟩:=G.slice;refine δi ?_;clear G hl;intro n hn G hl zB;go_in;go_wp2_with fail;go_loopw [5,10] (λo k wr=>∃(a b:List CD),k=ι ε (a.length:Nat)/\L=a++b/\HI wr w o ((List.filter (λc:CD=>c.par==id) a).map CD.id)/\az 14 dR wr B (ζ oa n oc) L/\KO (λ_=>False) w wr) (λ_ k _=>n - (intOf k).toNat);case atStart=>exact⟨[],L,rfl,rfl,ae.nil _ _,G.below ρE,ρK⟩
 case round=>
  obtain⟨a,b,rfl,IF,H0,G0,IB⟩:=hrel;refine δe ?_;intro zw IK q hq;obtain⟨ys,Jd⟩:=Nq ((List.filter (λc:CD=>c.par==id) a).map CD.id);have Pq:ys.length<=1000:=by rw[<- Jd];have:=ZH (λc:CD=>c.par==id) a;simp at*;omega
  rw[Jd] at H0;obtain⟨ob,oe,rfl⟩:=ae.slice H0;rw[hq] at IK ⊢;cases b with
  | nil=>
   refine η8 ?_;intro IJ hd;have Ke:L=a:=ρN;have Yp:((List.filter (λc:CD=>c.par==id) L).map CD.id)=ys:=by rw[Ke];exact Jd
   change Hid _ at IK IF Jd hq Yp Ke;go_wp2;go_ret;exact⟨_,rfl,by rw[Yp.out];exact H0.below ρE,IB.toBelow.trans ρE⟩
  | cons c r=>
   refine δF ?_;intro IJ hd Jm KL;obtain⟨g0,II,rfl,hg,RA⟩:=G0.at Jm;have Na:g0<wr:=ρa;have Ku:c ∈ L:=ρR;change Hid _ at IK hq IF Jm hn Jd;go_upto_region 4 with (fail);go_upto_region 5 with (refine Go.wpList_load_mid rfl 43 _ rfl g0 (II+q*14) rfl (dR c) _ RA Tryz.underlying43 rfl ρh ?_;try simp only[dR]);refine Jw (θ3 IB H0 G0) (λv=>ah v wr (fx c) 43) ρB ?_;rintro v1 X1 ⟨F',H1,G1⟩;replace cX:=X1.cell;replace fX:=X1.frozen;replace zX:=X1.size;have D1:∀z,(λc:CD=>c.par==id) c=z->(c.par==id)=z:=λz h=>h;obtain⟨z,hz⟩:=Nq ((λc:CD=>c.par==id) c);cases z
   ·have d1:=D1 _ hz;have hy2:((List.filter (λc:CD=>c.par==id) (a++[c])).map CD.id)=ys:=by rw[List.filter_append,jJ (p:=(λc:CD=>c.par==id)) hz,ZA];exact Jd.out
    change Hid _ at hz hy2;clear D1;go_wp2;go_roundw;case rel=>exact⟨a++[c],r,by rw[ZL,hq.out];go_num,by rw[IF.out];simp,by rw[hy2.out];exact ae.below H1 ρE,G1.below ρE,F'.step0 ρE⟩
    case measure=>exact ξc
   ·have d1:=D1 _ hz;have hy2:((List.filter (λc:CD=>c.par==id) (a++[c])).map CD.id)=ys++[c.id]:=by rw[List.filter_append,i4 (p:=(λc:CD=>c.par==id)) hz];rw[<- Jd.out];all_goals (first|rfl|exact List.map_append|simp)
    change Hid _ at hz hy2;clear D1;go_wp2_with (refine au Tryz.underlying45 bD rfl (λ_=>rfl) ρI ρf ρf rfl (.tmp 18) (.tmp 21) rfl w (ζ ob ys.length oe) ys c.id v1 #[ι ε c.id] rfl ρr ρr (H1.below ρE) ρB ρa ρJ ?_;intro o6 v6 H6 kx;replace kx:=kx.of_alloc;have G6:=G1.ko kx (λy hy=>ae.notown H1 ρa);have X6:=X1.ko kx (λh=>ae.ne_blk H1 X1 ρf h);have IQ:KO (λ_=>False) w v6:=F'.trans kx τ6;have zk6:=IQ.size;replace cX:=X6.cell;replace fX:=X6.frozen;replace zX:=X6.size);exact ηg
theorem Dd (v:ϗ)(L:List CD)(Ly:∀c ∈ L,CN c)(w:ϖ)(B:Nat)(G:az 14 dR w B v L)(hl:L.length<=1000):Calls Ψ 47 #[v] w λe w'=>∃u,e=ϰ u/\ae 41 3 fo w' w u (List.filter (λc:CD=>cW (kd c.r0 c.r1 c.r2)) L)/\Below w w w':=by
 obtain⟨oa,oc,rfl,-⟩:=G.slice;refine δi ?_;clear G hl;intro n hn G hl zB;go_in;go_wp2_with fail;go_loopw [3,8] (λo k wr=>∃(a b:List CD),k=ι ε (a.length:Nat)/\L=a++b/\ae 41 3 fo wr w o (List.filter (λc:CD=>cW (kd c.r0 c.r1 c.r2)) a)/\az 14 dR wr B (ζ oa n oc) L/\KO (λ_=>False) w wr) (λ_ k _=>n - (intOf k).toNat);case atStart=>exact⟨[],L,rfl,rfl,ae.nil _ _,G.below ρE,ρK⟩
 case round=>
  obtain⟨a,b,rfl,IF,H0,G0,IB⟩:=hrel;refine δe ?_;intro zw IK q hq;obtain⟨ys,Jd⟩:=Nq (List.filter (λc:CD=>cW (kd c.r0 c.r1 c.r2)) a);have Pq:ys.length<=1000:=by rw[<- Jd];have:=ZH (λc:CD=>cW (kd c.r0 c.r1 c.r2)) a;simp at*;omega
  rw[Jd] at H0;obtain⟨ob,oe,rfl⟩:=ae.slice H0;rw[hq] at IK ⊢;cases b with
  | nil=>
   refine η8 ?_;intro IJ hd;have Ke:L=a:=ρN;have Yp:(List.filter (λc:CD=>cW (kd c.r0 c.r1 c.r2)) L)=ys:=by rw[Ke];exact Jd
   change Hid _ at IK IF Jd hq Yp Ke;go_wp2;go_ret;exact⟨_,rfl,by rw[Yp.out];exact ae.below H0 ρE,IB.toBelow.trans ρE⟩
  | cons c r=>
   refine δF ?_;intro IJ hd Jm KL;obtain⟨g0,II,rfl,hg,RA⟩:=G0.at Jm;have Na:g0<wr:=ρa;have Ku:c ∈ L:=ρR;change Hid _ at IK hq IF Jm hn Jd;go_upto_region 4 with (fail);go_upto_region 5 with (refine Go.wpList_load_mid rfl 43 _ rfl g0 (II+q*14) rfl (dR c) _ RA Tryz.underlying43 rfl ρh ?_;try simp only[dR]);refine Jw (θ3 IB H0 G0) (λv=>ah v wr (fx c) 43) ρB ?_;rintro v1 X1 ⟨F',H1,G1⟩;replace cX:=X1.cell;replace fX:=X1.frozen;replace zX:=X1.size;have JG:=Ly c Ku;obtain⟨kv,LW⟩:=Nq (kd c.r0 c.r1 c.r2);have D1:∀z,(λc:CD=>cW (kd c.r0 c.r1 c.r2)) c=z->decide (1<kv)=z:=λz h=>by rw[<- LW];exact h
   change Hid _ at LW D1;go_wp2_with fail;refine Zc (θ4 F' H1 G1 X1) ?_;rintro v2 ⟨Iz,H2,G2,X2⟩;replace cX:=X2.cell;replace fX:=X2.frozen;replace zX:=X2.size;refine(bi c.r0 c.r1 c.r2 kv v2 JG.1.1 JG.1.2.1 JG.1.2.2 LW.out).mono ?_;rintro e v3 ⟨rfl,kx⟩;obtain⟨H3,G3,X3,ID⟩:=Mw kx (θ4 H2 G2 X2 Iz);replace cX:=X3.cell;replace fX:=X3.frozen;replace zX:=X3.size;clear kx;replace D1:=D1.out;obtain⟨z,hz⟩:=Nq ((λc:CD=>cW (kd c.r0 c.r1 c.r2)) c);cases z
   ·have d1:=D1 _ hz;have hy2:(List.filter (λc:CD=>cW (kd c.r0 c.r1 c.r2)) (a++[c]))=ys:=by rw[List.filter_append,jJ (p:=(λc:CD=>cW (kd c.r0 c.r1 c.r2))) hz,ZA];exact Jd.out
    change Hid _ at hz hy2;clear D1;go_wp2;go_roundw;case rel=>exact⟨a++[c],r,by rw[ZL,hq.out];go_num,by rw[IF.out];simp,by rw[hy2.out];exact ae.below H3 ρE,G3.below ρE,ID.step0 ρE⟩
    case measure=>exact ξc
   ·have d1:=D1 _ hz;have hy2:(List.filter (λc:CD=>cW (kd c.r0 c.r1 c.r2)) (a++[c]))=ys++[c]:=by rw[List.filter_append,i4 (p:=(λc:CD=>cW (kd c.r0 c.r1 c.r2))) hz];rw[<- Jd.out];all_goals (first|rfl|exact List.map_append|simp)
    change Hid _ at hz hy2;clear D1;go_wp2_with (refine au Tryz.underlying115 lp rfl (λ_=>rfl) τG ρf ρf rfl (.tmp 16) (.tmp 19) rfl w (ζ ob ys.length oe) ys c v3 (aP c.r0 c.r1 c.r2) rfl ρr ρr (H3.below ρE) ρB ρa ρJ ?_;intro o6 v6 H6 kx;replace kx:=kx.of_alloc;have G6:=G3.ko kx (λy hy=>ae.notown H3 ρa);have X6:=X3.ko kx (λh=>ae.ne_blk H3 X3 ρf h);have IQ:KO (λ_=>False) w v6:=ID.trans kx (by intro y hy h;exact ax h (ae.notown H3 hy));have zk6:=IQ.size;replace cX:=X6.cell;replace fX:=X6.frozen;replace zX:=X6.size);exact ηg
def putS (x:CD):Bool->List CD->List CD
 | d,[]=>if d then [] else [x]
 | d,c::r=>(if d=false/\x.id<=c.id then [x] else [])++(if c.id=x.id then [] else [c])++putS x (d || decide (x.id<=c.id)) r
theorem EX (v:ϗ)(L:List CD)(x:CD)(w:ϖ)(B:Nat)(G:az 14 dR w B v L)(hl:L.length<=1000):Calls Ψ 97 #[v,φ #[ι ε x.id,ι ε x.par,β x.lf,x.r0,x.r1,x.r2,x.l0,x.l1,x.l2,x.u0,x.u1,x.u2,ι ε x.pk,ι ε x.by_]] w λe w'=>∃u,e=ϰ u/\ae 43 14 dR w' w u (putS x false L)/\Below w w w':=by
 obtain⟨oa,oc,rfl,-⟩:=G.slice;refine δi ?_;clear G hl;intro n hn G hl zB;obtain⟨Y,hY⟩:=Nq (putS x false L);rw[hY];go_in;go_wp2_with fail;go_loopw [5,6,11] (λo d k wr=>∃(a b:List CD) (z:Bool) (ys:List CD),k=ι ε (a.length:Nat)/\d=β z/\L=a++b/\Y=ys++putS x z b/\ys.length<=2*a.length/\ae 43 14 dR wr (w+1) o ys/\ah wr w #[ι ε x.id,ι ε x.par,β x.lf,x.r0,x.r1,x.r2,x.l0,x.l1,x.l2,x.u0,x.u1,x.u2,ι ε x.pk,ι ε x.by_] 43/\az 14 dR wr B (ζ oa n oc) L/\KO (λ_=>False) w wr) (λ_ _ k _=>n - (intOf k).toNat);case atStart=>exact⟨[],L,false,[],rfl,rfl,rfl,hY.symm,by simp,ae.nil _ _,ρB,G.below ρE,ρK⟩
 case round=>
  obtain⟨a,b,z,ys,rfl,rfl,IF,Wd,Pq,H0,C0,G0,IB⟩:=hrel;refine δe ?_;intro zw IK q hq;have Xc:=C0.size;obtain⟨ob,oe,rfl⟩:=ae.slice H0;have cC:=C0.cell;have fC:=C0.frozen;replace hY:=ag hY;rw[hq] at IK Pq ⊢;have Yq:ys.length<=2000:=ρa;cases b with
  | nil=>
   refine η8 ?_;intro IJ hd;change Hid _ at IK IF hq;cases z
   ·have hy2:Y=ys++[x]:=by rw[Wd];rfl
    subst hy2;replace Wd:=ag Wd;go_wp2_with (refine au Tryz.underlying27 dw rfl (λ_=>rfl) gB ρf ρf rfl (.tmp 40) (.tmp 42) rfl (w+1) (ζ ob ys.length oe) ys x wr #[ι ε x.id,ι ε x.par,β x.lf,x.r0,x.r1,x.r2,x.l0,x.l1,x.l2,x.u0,x.u1,x.u2,ι ε x.pk,ι ε x.by_] rfl ρr ρr (H0.below ρE) ρB ρa ρJ ?_;intro o4 v4 H4 kx;replace kx:=kx.of_alloc;have C4:=C0.ko kx (ae.notown H0 ρa);have IC:KO (λ_=>False) w v4:=IB.trans kx (by intro y hy h;exact ax h (ae.notown H0 ρa));have UT:=IC.size;replace cC:=C4.cell;replace fC:=C4.frozen;replace zC:=C4.size);go_ret;exact⟨_,rfl,(ae.below H4 ρE).base_le ρa,IC.toBelow.trans ρE⟩
   ·have hy2:Y=ys:=by rw[Wd];exact ZA _
    subst hy2;replace Wd:=ag Wd;go_wp2;go_ret;exact⟨_,rfl,(ae.below H0 ρE).base_le ρa,IB.toBelow.trans ρE⟩
  | cons c r=>
   refine δF ?_;intro IJ hd Jm KL;obtain⟨g0,II,rfl,hg,RA⟩:=G0.at Jm;have Na:g0<wr:=ρa;change Hid _ at IK hq IF Jm hn;have Sq:=Wd;replace Wd:=ag Wd;have ncx:wr.heap.size≠w:=ρa;go_upto_region 5 with (fail);go_upto_region 6 with (refine Go.wpList_load_mid rfl 43 _ rfl g0 (II+q*14) rfl (dR c) _ RA Tryz.underlying43 rfl ρh ?_;try simp only[dR]);refine Jw (θ4 IB H0 C0 G0) (λv=>ah v wr #[ι ε c.id,ι ε c.par,β c.lf,c.r0,c.r1,c.r2,c.l0,c.l1,c.l2,c.u0,c.u1,c.u2,ι ε c.pk,ι ε c.by_] 43) ρB ?_;rintro v1 X1 ⟨F',H1,C1,G1⟩;replace cC:=C1.cell;replace fC:=C1.frozen;replace zC:=C1.size;replace cX:=X1.cell;replace fX:=X1.frozen;replace zX:=X1.size;cases z
   ·by_cases c1:x.id<=c.id
    ·by_cases c2:c.id=x.id
     ·have d1:=ZT c1;have d2:(c.id !=x.id)=false:=by simp[c2]
      have hy2:Y=(ys++[x])++putS x true r:=τq;clear Sq;replace hy2:=ag hy2;go_wp2_with (refine au Tryz.underlying27 dw rfl (λ_=>rfl) gB ρf ρf rfl (.tmp 24) (.tmp 26) rfl (w+1) (ζ ob ys.length oe) ys x v1 #[ι ε x.id,ι ε x.par,β x.lf,x.r0,x.r1,x.r2,x.l0,x.l1,x.l2,x.u0,x.u1,x.u2,ι ε x.pk,ι ε x.by_] rfl ρr ρr (H1.below ρE) ρB ρa ρJ ?_;intro o4 v4 H4 kx;replace kx:=kx.of_alloc;have C4:=C1.ko kx (ae.notown H1 ρa);have G4:=G1.ko kx (λy hy=>ae.notown H1 ρa);have X4:=X1.ko kx (λh=>ax (ae.own_ge H0 _ h.symm).2 ρa);have IC:KO (λ_=>False) w v4:=F'.trans kx σt;have UT:=IC.size;replace cC:=C4.cell;replace fC:=C4.frozen;replace zC:=C4.size;replace cX:=X4.cell;replace fX:=X4.frozen;replace zX:=X4.size);go_roundw;case rel=>exact⟨a++[c],r,true,ys++[x],by rw[ZL,hq.out];go_num,rfl,by rw[IF.out];simp,hy2.out,by simp;rw[hq.out];omega,ae.below H4 ρE,ρB,G4.below ρE,IC.step0 ρE⟩
      case measure=>exact ξc
     ·have d1:=ZT c1;have d2:(c.id !=x.id)=true:=by simp[c2]
      have hy2:Y=(ys++[x]++[c])++putS x true r:=τq;clear Sq;replace hy2:=ag hy2;go_upto_region 9 with (refine au Tryz.underlying27 dw rfl (λ_=>rfl) gB ρf ρf rfl (.tmp 24) (.tmp 26) rfl (w+1) (ζ ob ys.length oe) ys x v1 #[ι ε x.id,ι ε x.par,β x.lf,x.r0,x.r1,x.r2,x.l0,x.l1,x.l2,x.u0,x.u1,x.u2,ι ε x.pk,ι ε x.by_] rfl ρr ρr (H1.below ρE) ρB ρa ρJ ?_;intro o4 v4 H4 kx;replace kx:=kx.of_alloc;have C4:=C1.ko kx (ae.notown H1 ρa);have G4:=G1.ko kx (λy hy=>ae.notown H1 ρa);have X4:=X1.ko kx (λh=>ax (ae.own_ge H0 _ h.symm).2 ρa);have IC:KO (λ_=>False) w v4:=F'.trans kx σt;have UT:=IC.size;replace cC:=C4.cell;replace fC:=C4.frozen;replace zC:=C4.size;replace cX:=X4.cell;replace fX:=X4.frozen;replace zX:=X4.size);obtain⟨ob4,oe4,rfl⟩:=ae.slice H4;obtain⟨m4,hm4⟩:=Nq ((ys++[x]).length);obtain⟨y4,hy4⟩:=Nq (ys++[x]);have hyn4:y4.length<=2001:=by rw[<- hy4,ZL];simp;omega
      have hyn5:y4.length<=ys.length+1:=by rw[<- hy4,ZL];simp
      rw[hy4] at H4 hm4;rw[hy4];subst hm4;replace hy4:=ag hy4;go_wp2_with (refine au Tryz.underlying27 dw rfl (λ_=>rfl) gB ρf ρf rfl (.tmp 33) (.tmp 35) rfl (w+1) (ζ ob4 y4.length oe4) y4 c v4 #[ι ε c.id,ι ε c.par,β c.lf,c.r0,c.r1,c.r2,c.l0,c.l1,c.l2,c.u0,c.u1,c.u2,ι ε c.pk,ι ε c.by_] rfl ρr ρr (H4.below ρE) ρB ρa ρJ ?_;intro o5 v5 H5 kx;replace kx:=kx.of_alloc;have C5:=C4.ko kx (ae.notown H4 ρa);have G5:=G4.ko kx (λy hy=>ae.notown H4 ρa);have IN:KO (λ_=>False) w v5:=IC.trans kx (by intro y hy h;exact ax h (ae.notown H4 ρa));have zk5:=IN.size;replace cC:=C5.cell;replace fC:=C5.frozen;replace zC:=C5.size);go_roundw;case rel=>exact⟨a++[c],r,true,y4++[c],by rw[ZL,hq.out];go_num,rfl,by rw[IF.out];simp,by rw[<- hy4.out];exact hy2.out,by simp;rw[hq.out];omega,ae.below H5 ρE,ρB,G5.below ρE,IN.step0 ρE⟩
      case measure=>exact ξc
    ·by_cases c2:c.id=x.id
     ·exact ax (Int.le_of_eq c2.symm) c1
     ·have d1:=ZF c1;have d2:(c.id !=x.id)=true:=by simp[c2]
      have hy2:Y=(ys++[c])++putS x false r:=τq;clear Sq;replace hy2:=ag hy2;go_wp2_with (refine au Tryz.underlying27 dw rfl (λ_=>rfl) gB ρf ρf rfl (.tmp 33) (.tmp 35) rfl (w+1) (ζ ob ys.length oe) ys c v1 #[ι ε c.id,ι ε c.par,β c.lf,c.r0,c.r1,c.r2,c.l0,c.l1,c.l2,c.u0,c.u1,c.u2,ι ε c.pk,ι ε c.by_] rfl ρr ρr (H1.below ρE) ρB ρa ρJ ?_;intro o4 v4 H4 kx;replace kx:=kx.of_alloc;have C4:=C1.ko kx (ae.notown H1 ρa);have G4:=G1.ko kx (λy hy=>ae.notown H1 ρa);have X4:=X1.ko kx (λh=>ax (ae.own_ge H0 _ h.symm).2 ρa);have IC:KO (λ_=>False) w v4:=F'.trans kx σt;have UT:=IC.size;replace cC:=C4.cell;replace fC:=C4.frozen;replace zC:=C4.size;replace cX:=X4.cell;replace fX:=X4.frozen;replace zX:=X4.size);go_roundw;case rel=>exact⟨a++[c],r,false,ys++[c],by rw[ZL,hq.out];go_num,rfl,by rw[IF.out];simp,hy2.out,by simp;rw[hq.out];omega,ae.below H4 ρE,ρB,G4.below ρE,IC.step0 ρE⟩
      case measure=>exact ξc
   ·by_cases c1:x.id<=c.id
    ·by_cases c2:c.id=x.id
     ·have d1:=ZT c1;have d2:(c.id !=x.id)=false:=by simp[c2]
      have hy2:Y=(ys)++putS x true r:=τq;clear Sq;replace hy2:=ag hy2;go_wp2;go_roundw;case rel=>exact⟨a++[c],r,true,ys,by rw[ZL,hq.out];go_num,rfl,by rw[IF.out];simp,hy2.out,by simp;rw[hq.out];omega,ae.below H1 ρE,ρB,G1.below ρE,F'.step0 ρE⟩
      case measure=>exact ξc
     ·have d1:=ZT c1;exact ξO
    ·by_cases c2:c.id=x.id
     ·exact ax (Int.le_of_eq c2.symm) c1
     ·have d1:=ZF c1;exact ξO
theorem Gs (v:ϗ)(L:List CD)(id:Int)(w:ϖ)(B:Nat)(G:az 14 dR w B v L)(hl:L.length<=1000):Calls Ψ 65 #[v,ι ε id] w λe w'=>∃sa sn sc m,e=ϰ (φ #[ζ sa sn sc,ι ε m])/\(m=0->ae 43 14 dR w' w (ζ sa sn sc) (List.filter (λc:CD=>c.id !=id) L)/\(∃d,fc L id=some d)/\∀a ∈ L,a.par≠id)/\Below w w w':=by
 obtain⟨oa,oc,rfl,-⟩:=G.slice;refine δi ?_;clear G hl;intro n hn G hl zB;go_in;go_wp2_with fail;refine Jc (θ2 (Ks (λ_=>False) w) G) (λv=>ah v w #[Kn,Kz] 112) ρB ?_;rintro v1 R1 ⟨F',G1⟩;have Rr:=R1.r;refine(kf _ L id v1 B G1 ρa).mono ?_;rintro e v2 ⟨i,rfl,hi,kx⟩;clear Rr;obtain⟨⟨G2,R2,Iz⟩,Rr⟩:=Mx kx (θ3 G1 R1 F');clear kx;have zv2:=Iz.size;rcases hi with ⟨rfl,hf⟩|⟨kk,d,rfl,hk,hf⟩
 ·replace hf:=ag hf;go_wp2_with fail;refine eu v2 (λx=>x=w.heap.size) (λv=>ah v w #[ζ oa n oc,ι ε 6] 112) ρB (λ_ kx=>kx) ?_;rintro v9 R9 k9;have Kd:=R9.cell;refine ZO (v:=φ #[ζ oa n oc,ι ε 6]) κs rfl ?_;exact⟨_,_,_,6,rfl,λh=>ax h ρf,Iz.toBelow.trans (k9.below zv2 ρC)⟩
 ·change Hid _ at hk hf;go_wp2_with fail;refine Zc (θ3 Iz G2 R2) ?_;rintro v3 ⟨ID,G3,R3⟩;refine(nh _ L id v3 B G3 ρa).mono ?_;rintro e v4 ⟨u,rfl,HK,kx⟩;clear Rr;obtain⟨⟨G4,R4,IC⟩,Rr⟩:=Mx kx (θ3 G3 R3 ID);clear kx;obtain⟨zs,Vt⟩:=Nq ((List.filter (λc:CD=>c.par==id) L).map CD.id);rw[Vt] at HK;obtain⟨ub,uc,rfl⟩:=ae.slice HK;obtain⟨m,hm⟩:=Nq zs.length;rw[hm];have zv4:=IC.size;have zR4:=R4.size;by_cases cm:0<m
  ·have d2:=dt (0<(m:Int));have Vc:=ZT cm;change Hid _ at Vt hm;clear HK;go_wp2_with fail;refine eu v4 (λx=>x=w.heap.size) (λv=>ah v w #[ζ oa n oc,ι ε 23] 112) ρB (λ_ kx=>kx) ?_;rintro v9 R9 k9;have Kd:=R9.cell;refine ZO (v:=φ #[ζ oa n oc,ι ε 23]) κs rfl ?_;exact⟨_,_,_,23,rfl,λh=>ax h ρf,IC.toBelow.trans (k9.below zv4 ρC)⟩
  ·have d2:=df (0<(m:Int));have Vc:=ZF cm;have Ob:∀a ∈ L,a.par≠id:=by intro a ha e;have h9:a.id ∈ zs:=(by rw[<- Vt];exact List.mem_map.2 ⟨a,List.mem_filter.2 ⟨ha,beq_iff_eq.2 e⟩,rfl⟩);rw[List.length_eq_zero_iff.1 (show zs.length=0 by omega)] at h9;exact ax h9 ρp
   replace Ob:=ag Ob;clear HK hm Vt;clear cm;go_wp2_with fail;go_loopw [5,23] (λo k wr=>∃(a b:List CD),k=ι ε (a.length:Nat)/\L=a++b/\ae 43 14 dR wr v4 o (List.filter (λc:CD=>c.id !=id) a)/\az 14 dR wr B (ζ oa n oc) L/\ah wr w #[Kn,Kz] 112/\KO (λ_=>False) v4 wr) (λ_ k _=>n - (intOf k).toNat);case atStart=>exact⟨[],L,rfl,rfl,ae.nil _ _,G4.below ρE,ρB,ρK⟩
   case round=>
    obtain⟨a,b,rfl,IF,H0,G0,R0,IB⟩:=hrel;refine δe ?_;intro zw IK q hq;obtain⟨ys,Jd⟩:=Nq (List.filter (λc:CD=>c.id !=id) a);have Pq:ys.length<=1000:=by rw[<- Jd];have:=ZH (λc:CD=>c.id !=id) a;simp at*;omega
    rw[Jd] at H0;obtain⟨ob,oe,rfl⟩:=ae.slice H0;rw[hq] at IK ⊢;have Ss:=R0.r;cases b with
    | nil=>
     refine η8 ?_;intro IJ hd;have Ke:L=a:=ρN;have Yp:(List.filter (λc:CD=>c.id !=id) L)=ys:=by rw[Ke];exact Jd
     change Hid _ at IK IF Jd hq Yp Ke;go_wp2_with fail;refine eu wr (λx=>x=w.heap.size) (λv=>ah v w #[ζ ob ys.length oe,Kz] 112) ρB (λ_ kx=>kx) ?_;rintro v9 R9 k9;have Kd:=R9.cell;refine ZO (v:=φ #[ζ ob ys.length oe,Kz]) κs rfl ?_;exact⟨_,_,_,0,rfl,λ_=>⟨by rw[Yp.out];exact(ae.ko H0 k9 (λx hx _ e=>by omega)).base_le ρa,⟨d,hf.out⟩,Ob.out⟩,(IC.toBelow.trans (IB.toBelow.mono zv4)).trans (k9.below ρa ρC)⟩
    | cons c r=>
     refine δF ?_;intro IJ hd Jm KL;obtain⟨g0,II,rfl,hg,RA⟩:=G0.at Jm;have Na:g0<wr:=ρa;have Ku:c ∈ L:=ρR;change Hid _ at IK hq IF Jm hn Jd;go_upto_region 8 with (fail);go_upto_region 9 with (refine Go.wpList_load_mid rfl 43 _ rfl g0 (II+q*14) rfl (dR c) _ RA Tryz.underlying43 rfl ρh ?_;try simp only[dR]);refine jf (θ4 IB H0 G0 R0) (λv=>ah v wr (fx c) 43) ρB ?_;clear Rr Ss;rintro v1 X1 ⟨F',H1,G1,R1⟩ Rr;replace cX:=X1.cell;replace fX:=X1.frozen;replace zX:=X1.size;have D1:∀z,(λc:CD=>c.id !=id) c=z->(c.id !=id)=z:=λz h=>h;obtain⟨z,hz⟩:=Nq ((λc:CD=>c.id !=id) c);cases z
     ·have d1:=D1 _ hz;have hy2:(List.filter (λc:CD=>c.id !=id) (a++[c]))=ys:=by rw[List.filter_append,jJ (p:=(λc:CD=>c.id !=id)) hz,ZA];exact Jd.out
      change Hid _ at hz hy2;clear D1;go_wp2;go_roundw;case rel=>exact⟨a++[c],r,by rw[ZL,hq.out];go_num,by rw[IF.out];simp,by rw[hy2.out];exact ae.below H1 ρE,G1.below ρE,ρB,F'.step0 ρE⟩
      case measure=>exact ξc
     ·have d1:=D1 _ hz;have hy2:(List.filter (λc:CD=>c.id !=id) (a++[c]))=ys++[c]:=by rw[List.filter_append,i4 (p:=(λc:CD=>c.id !=id)) hz];rw[<- Jd.out];all_goals (first|rfl|exact List.map_append|simp)
      change Hid _ at hz hy2;clear D1;go_wp2_with (refine au Tryz.underlying27 dw rfl (λ_=>rfl) gB ρf ρf rfl (.tmp 31) (.tmp 33) rfl v4 (ζ ob ys.length oe) ys c v1 (fx c) rfl ρr ρr (H1.below ρE) ρB ρa ρJ ?_;intro o6 v6 H6 kx;replace kx:=kx.of_alloc;have G6:=G1.ko kx (λy hy=>ae.notown H1 ρa);have R6:=R1.ko kx (ae.notown H1 ρa);have X6:=X1.ko kx (λh=>ax (ae.own_ge H0 _ h.symm).2 ρa);have IQ:KO (λ_=>False) v4 v6:=F'.trans kx τ6;have zk6:=IQ.size;replace rR:=R6.r;replace cX:=X6.cell;replace fX:=X6.frozen;replace zX:=X6.size);go_roundw;case rel=>exact⟨a++[c],r,by rw[ZL,hq.out];go_num,by rw[IF.out];simp,by rw[hy2.out];exact ae.below H6 ρE,G6.below ρE,ρB,IQ.step0 ρE⟩
      case measure=>exact ξc
def WC (x:CD):Int:=wr x.id x.par x.lf (kd x.r0 x.r1 x.r2) (kd x.l0 x.l1 x.l2) (kd x.u0 x.u1 x.u2) x.pk x.by_
def Br (x:CD)(L:List CD):Prop:=x.par=0\/∃c,fc L x.par=some c/\c.lf=false
def Bp (x:CD)(L:List CD):Prop:=WC x=0/\fc L x.id=none/\L.length≠64/\Br x L/\(dz x=true->kh L x.par=true)
theorem Gk (v:ϗ)(L:List CD)(x:CD)(hx:CN x)(hq:∀c ∈ L,CN c)(w:ϖ)(B:Nat)(G:az 14 dR w B v L)(hl:L.length<=1000):Calls Ψ 64 #[v,φ (fx x)] w λe w'=>∃sa sn sc m,e=ϰ (φ #[ζ sa sn sc,ι ε m])/\(m=0->ae 43 14 dR w' w (ζ sa sn sc) (putS x false L)/\Bp x L)/\Below w w w':=by
 obtain⟨oa,oc,rfl,-⟩:=G.slice;refine δi ?_;clear G hl;intro n hn G hl zB;obtain⟨cw,XR⟩:=Nq (WC x);replace XR:=ag XR;go_in;go_wp2_with fail;refine δL ?_;intro v1 C1 R1 F' G1 v2 G2 C2 R2 Iz Rr;by_cases c1:cw=0
 rotate_left
 ·have d1:(cw !=0)=true:=by simpa using c1
  go_wp2_with fail;refine eu v2 (λx=>x=(w.heap.size+1)) (λv=>ah v ((w+1)) #[ζ oa n oc,ι ε cw] 112) ρB (λ_ kx=>kx) ?_;rintro v9 R9 k9;have Kd:=R9.cell;refine ZO (v:=φ #[ζ oa n oc,ι ε cw]) σy rfl ?_;exact⟨_,_,_,cw,rfl,λh=>ax h c1,Iz.toBelow.trans (k9.below Iz.size ρC)⟩
 subst c1;go_wp2_with fail;refine Zc (θ4 Iz G2 C2 R2) ?_;rintro v3 ⟨ID,G3,C3,R3⟩;refine(kf _ L x.id v3 B G3 ρa).mono ?_;rintro e v4 ⟨i,rfl,hi,kx⟩;clear Rr;obtain⟨⟨G4,C4,R4,IC⟩,Rr⟩:=Mx kx (θ4 G3 C3 R3 ID);clear kx;rcases hi with ⟨rfl,hf⟩|⟨kk,d,rfl,hk,hf⟩
 rotate_left
 ·go_wp2_with fail;refine eu v4 (λx=>x=(w.heap.size+1)) (λv=>ah v ((w+1)) #[ζ oa n oc,ι ε 8] 112) ρB (λ_ kx=>kx) ?_;rintro v9 R9 k9;have Kd:=R9.cell;refine ZO (v:=φ #[ζ oa n oc,ι ε 8]) σy rfl ?_;exact⟨_,_,_,8,rfl,λh=>ax h ρf,IC.toBelow.trans (k9.below IC.size ρC)⟩
 by_cases c2:n=64
 ·have d2:((n:Int)==64)=true:=by rw[c2];rfl
  clear c2;go_wp2_with fail;refine eu v4 (λx=>x=(w.heap.size+1)) (λv=>ah v ((w+1)) #[ζ oa n oc,ι ε 5] 112) ρB (λ_ kx=>kx) ?_;rintro v9 R9 k9;have Kd:=R9.cell;refine ZO (v:=φ #[ζ oa n oc,ι ε 5]) σy rfl ?_;exact⟨_,_,_,5,rfl,λh=>ax h ρf,IC.toBelow.trans (k9.below IC.size ρC)⟩
 have d2:((n:Int)==64)=false:=ZN.2 ρa;change Hid _ at hf c2;go_wp2_with fail;refine Zc (θ4 IC G4 C4 R4) ?_;rintro v5 ⟨IN,G5,C5,R5⟩;refine(kf _ L x.par v5 B G5 ρa).mono ?_;rintro e v6 ⟨j,rfl,hj,kx⟩;clear Rr;obtain⟨⟨G6,C6,R6,IQ⟩,Rr⟩:=Mx kx (θ4 G5 C5 R5 IN);clear kx;have b0:=C6.cell 1;simp at b0;go_upto_region 9 with fail;go_cut [43] from 30 to 42 (λt wx=>∃z:Bool,t=β z/\(z=false->Br x L)/\wx=v6);case first=>
  by_cases c3:x.par=0
  ·have d3:(x.par !=0)=false:=by simp[c3]
   clear hj;go_wp2;go_meet;exact⟨_,rfl,λ_=>.inl c3,rfl⟩
  ·have d3:(x.par !=0)=true:=by simp[c3]
   rcases hj with ⟨rfl,PE⟩|⟨k,c,rfl,hk,PE⟩
   ·replace PE:=ag PE;go_wp2;go_meet;exact⟨_,rfl,λh=>ax h ρf,rfl⟩
   ·have hnn:k<n:=by have:=(List.getElem?_eq_some_iff.1 hk).1;omega
    have IJ:(k:Int)<(n:Int):=ρa;obtain⟨g0,II,rfl,hg,RA⟩:=G6.at hk;have b2:v6.cell? ⟨g0,II+k*14+2,none⟩=some (β c.lf):=RA 2 _ rfl;obtain⟨z,hz⟩:=Nq c.lf;rw[hz] at b2;change Hid _ at hz hk PE;go_wp2;go_meet;exact⟨_,rfl,λh=>.inr ⟨c,PE.out,by rw[hz.out];exact h⟩,rfl⟩
 case rest=>
  obtain⟨z,rfl,Jy,rfl⟩:=hcut;replace hj:=ag hj;cases z
  rotate_left
  ·go_wp2_with fail;refine eu wc (λx=>x=(w.heap.size+1)) (λv=>ah v ((w+1)) #[ζ oa n oc,ι ε 23] 112) ρB (λ_ kx=>kx) ?_;rintro v9 R9 k9;have Kd:=R9.cell;refine ZO (v:=φ #[ζ oa n oc,ι ε 23]) σy rfl ?_;exact⟨_,_,_,23,rfl,λh=>ax h ρf,IQ.toBelow.trans (k9.below IQ.size ρC)⟩
  replace Jy:=ag (Jy rfl);go_upto_region 11 with fail;go_cut [56] from 46 to 55 (λt wx=>∃y:Bool,t=β y/\(y=false->dz x=true->kh L x.par=true)/\az 14 dR wx B (ζ oa n oc) L/\ah wx w (fx x) 43/\ah wx (w+1) #[Kn,Kz] 112/\KO (λ_=>False) w wx);case first=>
   obtain⟨kv,LW⟩:=Nq (kd x.l0 x.l1 x.l2);have Ka:dz x=cW kv:=by rw[<- LW];rfl
   obtain⟨sb,PM⟩:=Nq (kh L x.par);change Hid _ at LW Ka PM;go_wp2_with fail;refine Zc (θ4 IQ G6 C6 R6) ?_;rintro v7 ⟨I8,G7,C7,R7⟩;refine(bi x.l0 x.l1 x.l2 kv v7 hx.2.1.1 hx.2.1.2.1 hx.2.1.2.2 LW.out).mono ?_;rintro e v8 ⟨rfl,kx⟩;clear Rr;obtain⟨⟨G8,C8,R8,Je⟩,Rr⟩:=Mx kx (θ4 G7 C7 R7 I8);clear kx;by_cases ck:1<kv
   rotate_left
   ·have d6:=ZF ck;go_wp2;go_meet;exact⟨_,rfl,λ_ h=>by rw[Ka.out] at h;have h2:1<kv:=of_decide_eq_true h;omega,G8.below ρE,ρB,ρB,Je.step0 ρE⟩
   ·have d6:=ZT ck;go_wp2_with fail;refine Zc (θ4 Je G8 C8 R8) ?_;rintro v9 ⟨Jl,G9,C9,R9⟩;refine(oP _ L x.par hq v9 B G9 ρa).mono ?_;rintro e Lj ⟨rfl,kx⟩;clear Rr;obtain⟨⟨Qw,SU,Qd,I7⟩,Rr⟩:=Mx kx (θ4 G9 C9 R9 Jl);clear kx;rw[PM.out];cases sb
    ·go_wp2;go_meet;exact⟨_,rfl,λh=>ax h ρf,Qw.below ρE,ρB,ρB,I7.step0 ρE⟩
    ·go_wp2;go_meet;exact⟨_,rfl,λ_ _=>PM.out,Qw.below ρE,ρB,ρB,I7.step0 ρE⟩
  case rest=>
   obtain⟨y,rfl,PN,G8,C8,R8,Je⟩:=hcut;replace Rr:=θ2 C8.r R8.r;cases y
   rotate_left
   ·go_wp2_with fail;refine eu wc (λx=>x=(w.heap.size+1)) (λv=>ah v ((w+1)) #[ζ oa n oc,ι ε 29] 112) ρB (λ_ kx=>kx) ?_;rintro v9 R9 k9;have Kd:=R9.cell;refine ZO (v:=φ #[ζ oa n oc,ι ε 29]) σy rfl ?_;exact⟨_,_,_,29,rfl,λh=>ax h ρf,Je.toBelow.trans (k9.below Je.size ρC)⟩
   replace PN:=ag (PN rfl);go_wp2_with fail;refine Zc (θ4 Je G8 C8 R8) ?_;rintro v9 ⟨Jl,G9,C9,R9⟩;refine(Hl _ L x.par v9 B G9 ρa).mono ?_;rintro e Lj ⟨u,rfl,HU,kx⟩;clear Rr;obtain⟨⟨Qw,SU,Qd,I7⟩,Rr⟩:=Mx kx (θ4 G9 C9 R9 Jl);clear kx;obtain⟨us,WG⟩:=Nq (mB 70 L x.par);rw[WG] at HU;obtain⟨ub,uc,rfl⟩:=ae.slice HU;obtain⟨m,hm⟩:=Nq us.length;rw[hm];change Hid _ at WG hm;clear HU;by_cases c5:16<=m
   ·have d5:=ZT c5;have d5':=dt (16<=(m:Int));go_wp2_with fail;refine eu Lj (λx=>x=(w.heap.size+1)) (λv=>ah v ((w+1)) #[ζ oa n oc,ι ε 25] 112) ρB (λ_ kx=>kx) ?_;rintro v9 R9 k9;have Kd:=R9.cell;refine ZO (v:=φ #[ζ oa n oc,ι ε 25]) σy rfl ?_;exact⟨_,_,_,25,rfl,λh=>ax h ρf,I7.toBelow.trans (k9.below I7.size ρC)⟩
   have d5:=ZF c5;have d5':=df (16<=(m:Int));go_wp2_with fail;refine Zc (θ4 I7 Qw SU Qd) ?_;rintro JR ⟨Jn,Qc,C11,LH⟩;refine(EX _ L x JR B Qc ρa).mono ?_;rintro e Mj ⟨u,rfl,HP,kx⟩;clear Rr;obtain⟨⟨Ou,C12,QA,Jk⟩,Rr⟩:=Mx kx (θ4 Qc C11 LH Jn);clear kx;have UB:w.heap.size+1<JR:=LH.size;obtain⟨ps,JX⟩:=Nq (putS x false L);rw[JX] at HP;obtain⟨pb,pc,rfl⟩:=ae.slice HP;obtain⟨y,hy⟩:∃y:Nat,ps.length=y:=⟨_,rfl⟩;rw[hy] at HP ⊢;change Hid _ at JX hy;go_wp2_with fail;refine eu Mj (λx=>x=(w.heap.size+1)) (λv=>ah v ((w+1)) #[ζ pb y pc,Kz] 112) ρB (λ_ kx=>kx) ?_;rintro v9 R9 k9;have Kd:=R9.cell;refine ZO (v:=φ #[ζ pb y pc,Kz]) σy rfl ?_;exact⟨_,_,_,0,rfl,λ_=>⟨by rw[JX.out];exact(ae.ko HP k9 (λx hx _ e=>by have:=UB;omega)).base_le (by have:=UB;omega),XR.out,hf.out,λe=>c2.out (by rw[<- hn];exact e),Jy.out,PN.out⟩,Jk.toBelow.trans (k9.below Jk.size ρC)⟩
theorem De (a t:Int)(w:ϖ)(ha:0<=a/\a<=Mc)(ht:0<=t/\t<=65536):
  CB 135 #[nv a,ι ε t] w (nv (a*t)):=by
 obtain⟨p,hp⟩:=Nq (a*t);rw[hp];have Uo:lo a=a:=by unfold lo;omega
 have Wk:hi a=0:=κo;have hw:IntKind.u64.wrap t=t:=ZZ _ ⟨by omega,by omega⟩;have a128:ai a:=ρx;have hpb:0<=p/\p<=Mc*65536:=σx;have MG:ai p:=ρx;change Hid _ at hp Uo Wk;unfold CB;go_in;go_wp2_with fail;refine Jc (Ks (λ_=>False) w) (λv=>ah v w (bv a) 70/\ah v (w+1) fD 70) ⟨ρB,ρB⟩ ?_;rintro v1 ⟨C1,R1⟩ F';have Rr:=θ2 C1.r R1.r;refine(sL a a v1 Uo.out).mono ?_;rintro e v2 ⟨rfl,kx⟩;clear Rr;obtain⟨⟨C2,R2,Iz⟩,Rr⟩:=Mx kx (θ3 C1 R1 F');clear kx;go_wp2_with fail;refine Zc (θ3 Iz C2 R2) ?_;rintro v3 ⟨ID,C3,R3⟩;refine(fj a t p v3 ⟨ha.1,by omega⟩ ⟨ht.1,by omega⟩ hp.out).mono ?_;rintro e v4 ⟨rfl,kx⟩;clear Rr;obtain⟨⟨C4,R4,IC⟩,Rr⟩:=Mx kx (θ3 C3 R3 ID);clear kx;go_wp2_with fail;refine mL (θ3 IC C4 R4) (λv=>ah v v4 (bv p) 70) ρB ?_;clear Rr;rintro v5 X5 ⟨IN,C5,R5⟩ Rr;have Ss:=X5.r;refine((by have h:=CZ a v5;rw[Wk.out] at h;exact h:CB 61 #[nv a] v5 Ky)).mono ?_;rintro e v6 ⟨rfl,kx⟩;clear Rr Ss;obtain⟨⟨C6,R6,X6,IQ⟩,Rr⟩:=Mx kx (θ4 C5 R5 X5 IN);clear kx;go_wp2_with fail;refine Zc (θ4 IQ C6 R6 X6) ?_;rintro v7 ⟨I8,C7,R7,X7⟩;refine(fj 0 t 0 v7 ρa ⟨ht.1,by omega⟩ (Int.zero_mul t)).mono ?_;rintro e v8 ⟨rfl,kx⟩;clear Rr;obtain⟨⟨C8,R8,X8,Je⟩,Rr⟩:=Mx kx (θ4 C7 R7 X7 I8);clear kx;have h0:ai 0:=ρx;have hT:∀u,CB 63 #[Ky,Ky] u (nv 0):=λu=>by have h:=Df 0 u h0;first|(rw[show hi 0=0 by decide,show lo 0=0 by decide] at h;exact h)|exact h
 go_upto_region 3 with (fail);refine jf (θ4 Je C8 R8 X8) (λv=>ah v v8 (bv 0) 70) ρB ?_;clear Rr;rintro v9 Y9 ⟨Jl,C9,R9,X9⟩ Rr;have Ss:=Y9.r;have q:=θ4 (af C9) (af R9) (af X9) (af Y9);refine Ws 5 (mw ?_)
 repeat (go_big_quiet_step ((first
   | (go_at_call 62;(with_reducible exact bT (sL 0 0 _ rfl)))
   | (go_at_call 63;(with_reducible exact bT (hT _)))
   | (go_at_call 59;(with_reducible exact bT (iq p 0 p _ MG h0 (Int.add_zero p) MG))))))
 refine bF (θ5 C9 R9 X9 Y9 Jl) ?_;clear Rr Ss;rintro Lj ⟨SU,Qd,QG,Xw,I7⟩ Rr;clear q C9 R9 X9 Y9;go_wp2_with fail;refine eu Lj (λx=>x=w.heap.size+1) (λv=>ah v (w+1) (bv p) 70) ρB (λ_ kx=>kx) ?_;rintro JR LH k9;have TZ:=LH.cell;refine ZO (v:=nv p) (by simp[results,Tryz.results135,go_sem,TZ]) rfl ?_;exact⟨rfl,I7.toBelow.trans (k9.below I7.size ρC)⟩
theorem qk (a t n:Int)(w:ϖ)(ha:0<=a/\a<=Mc)(ht:0<=t/\t<=65536)(hn:aq n):
  CB 100 #[nv a,ι ε t,n] w (β (!decide (65536*n<a*t))):=by
 obtain⟨p,hp⟩:=Nq (a*t);obtain⟨q,hq⟩:=Nq (65536*n);rw[hp,hq];have hpb:0<=p/\p<=Mc*65536:=σx;have MG:ai p:=ρx;have q128:ai q:=ρx;obtain⟨c,hc⟩:=Nq (decide (q<p));rw[hc];have hT:∀u,CB 135 #[nv a,ι ε t] u (nv p):=λu=>by have h:=De a t u ha ht;rw[hp] at h;exact h
 change Hid _ at hp hq hc;cases c
 ·unfold CB;go_in;go_upto_region 1 with (fail);refine Jw (Ks (λ_=>False) w) (λv=>ah v w (bv a) 70) ρB ?_;rintro v1 C1 F';have Rr:=C1.r;have qC:=af C1;refine Wq ?_
  repeat (go_big_quiet_step ((first
    | (go_at_call 38;(with_reducible exact bT (fj 65536 n q _ ρa hn hq.out)))
    | (go_at_call 135;(with_reducible exact bT (hT _)))
    | (go_at_call 23;(with_reducible exact bT (lI q p false _ q128 MG hc.out))))))
  refine bF (θ2 C1 F') ?_;clear Rr;rintro v2 ⟨C2,Iz⟩ Rr;clear qC C1;exact ηo
 ·unfold CB;go_in;go_upto_region 1 with (fail);refine Jw (Ks (λ_=>False) w) (λv=>ah v w (bv a) 70) ρB ?_;rintro v1 C1 F';have Rr:=C1.r;have qC:=af C1;refine Wq ?_
  repeat (go_big_quiet_step ((first
    | (go_at_call 38;(with_reducible exact bT (fj 65536 n q _ ρa hn hq.out)))
    | (go_at_call 135;(with_reducible exact bT (hT _)))
    | (go_at_call 23;(with_reducible exact bT (lI q p true _ q128 MG hc.out))))))
  refine bF (θ2 C1 F') ?_;clear Rr;rintro v2 ⟨C2,Iz⟩ Rr;clear qC C1;exact ηo
theorem BF (v:ϗ)(L:List CD)(t:Int)(ht:1<=t/\t<=65536)(Ly:∀c ∈ L,CN c)(w:ϖ)(B:Nat)(G:az 3 fo w B v L)(hl:L.length<=1000):Calls Ψ 67 #[ι ε t,v] w λe w'=>∃m,e=ϰ (ι ε m)/\((m=0->∀c ∈ L,kd c.r0 c.r1 c.r2≠0)/\(m≠0->∃c ∈ L,kd c.r0 c.r1 c.r2=0))/\Below w w w':=by
 obtain⟨oa,oc,rfl,-⟩:=G.slice;refine δi ?_;clear G hl;intro n hn G hl zB;have d1:=df (t<1);have d2:=df (65536<t);go_in;go_wp2_with fail;go_loopw [15] (λk wr=>∃(a b:List CD),k=ι ε (a.length:Nat)/\L=a++b/\(∀c ∈ a,kd c.r0 c.r1 c.r2≠0)/\az 3 fo wr B (ζ oa n oc) L/\KO (λ_=>False) w wr) (λk _=>n - (intOf k).toNat);case atStart=>exact⟨[],L,rfl,rfl,by simp,G.below ρE,ρK⟩
 case round=>
  obtain⟨a,b,rfl,IF,I3,G0,IB⟩:=hrel;refine δe ?_;intro zw IK q hq;rw[hq] at IK ⊢;cases b with
  | nil=>refine η8 ?_;intro IJ hd;have Ke:L=a:=ρN;change Hid _ at IK IF hq Ke I3;go_wp2;go_ret;exact⟨0,rfl,⟨λ_=>by rw[Ke.out];exact I3.out,λh=>ax rfl h⟩,IB.toBelow.trans ρE⟩
  | cons c r=>
   refine δF ?_;intro IJ hd Jm KL;obtain⟨g0,II,rfl,hg,RA⟩:=G0.at Jm;have Na:g0<wr:=ρa;have JG:=(Ly c ρR).1;obtain⟨kv,LW⟩:=Nq (kd c.r0 c.r1 c.r2);change Hid _ at IK hq IF Jm hn LW I3;go_upto_region 5 with (fail);go_upto_region 6 with (refine Go.wpList_load_mid rfl 41 _ rfl g0 (II+q*3) rfl (fo c) _ RA Tryz.underlying41 rfl ρh ?_;try simp only[fo]);refine Jw (θ2 IB G0) (λv=>ah v wr (aP c.r0 c.r1 c.r2) 41) ρB ?_;rintro v1 X1 ⟨F',G1⟩;have Rr:=X1.r;go_wp2_with fail;refine Zc (θ3 F' G1 X1) ?_;rintro v2 ⟨Iz,G2,X2⟩;refine(bi c.r0 c.r1 c.r2 kv v2 JG.1 JG.2.1 JG.2.2 LW.out).mono ?_;rintro e v3 ⟨rfl,kx⟩;clear Rr;obtain⟨⟨G3,X3,ID⟩,Rr⟩:=Mx kx (θ3 G2 X2 Iz);clear kx;by_cases c1:kv=0
   ·have d3:(kv==0)=true:=by rw[c1];rfl
    skip;go_wp2;go_ret;exact⟨21,rfl,⟨λh=>ax h ρf,λ_=>⟨c,by rw[IF.out];simp,by rw[LW.out];exact c1⟩⟩,ID.toBelow.trans ρE⟩
   ·have d3:(kv==0)=false:=ZN.2 c1;replace c1:=ag c1;go_wp2;go_roundw;case rel=>exact⟨a++[c],r,by rw[ZL,hq.out];go_num,by rw[IF.out];simp,λy hy=>(ZM.1 hy).elim (I3.out y) (λh=>by rw[ZS.1 h,LW.out];exact c1.out),G3.below ρE,ID.step0 ρE⟩
    case measure=>exact ξc
theorem vo (v:ϗ)(L:List CD)(t:Int)(ht:aq t)(hc:∀c ∈ L,(0<=c.r0/\0<=c.r1/\0<=c.r2)/\0<=sk c.r0 c.r1 c.r2 t/\sk c.r0 c.r1 c.r2 t<=4503599627370496)(w:ϖ)(B:Nat)(G:az 3 fo w B v L)(hl:L.length<=1000):
  CB 101 #[v,t] w (nv (L.map λc=>sk c.r0 c.r1 c.r2 t).sum):=by
 obtain⟨oa,oc,rfl,-⟩:=G.slice;refine δi ?_;clear G hl;intro n hn G hl zB;obtain⟨Y,hY⟩:=Nq ((L.map λc=>sk c.r0 c.r1 c.r2 t).sum);rw[hY];unfold CB;go_in;go_wp2_with fail;go_loopw [11] (λk wr=>∃(a b:List CD) (s:Int),k=ι ε (a.length:Nat)/\L=a++b/\(a.map λc=>sk c.r0 c.r1 c.r2 t).sum=s/\(0<=s/\s<=a.length*4503599627370496)/\ah wr (w+1) #[(aV (s)),(bX (s)),(gV (s)),(iY (s))] 70/\ah wr w fD 70/\az 3 fo wr B (ζ oa n oc) L/\Below w w wr) (λk _=>n - (intOf k).toNat);case atStart=>exact⟨[],L,0,rfl,rfl,rfl,by simp,ρv,ρB,G.below ρE,ρE⟩
 case round=>
  obtain⟨a,b,s,rfl,IF,hs,PM,O0,R0,G0,IB⟩:=hrel;refine δe ?_;intro zw IK q hq;rw[hq] at IK PM ⊢;have Kk:q<=n:=ρa;have UQ:ai s:=ρx;have zO:=O0.size;have zR:=R0.size;have cO:=O0.cell;have fO:=O0.frozen;have cR:=R0.cell;have fR:=R0.frozen;cases b with
  | nil=>
   refine η8 ?_;intro IJ hd;have Jd:Y=s:=by rw[<- hY,IF,ZA];exact hs
   subst Jd;change Hid _ at IK IF hq hs hY;go_wp2_with fail;refine δ0 ?_;rintro v9 R9 k9;have Kd:=R9.cell;refine ZO (v:=nv Y) (by simp[results,Tryz.results101,go_sem,Kd]) rfl ?_;exact⟨rfl,IB.trans (k9.below zw ρC)⟩
  | cons c r=>
   refine δF ?_;intro IJ hd Jm KL;obtain⟨g0,II,rfl,hg,RA⟩:=G0.at Jm;have Na:g0<wr:=ρa;have hS:=hc c ρR;obtain⟨JG,hS1,hS2⟩:=hS;obtain⟨S,hSe⟩:=Nq (sk c.r0 c.r1 c.r2 t);rw[hSe] at hS1 hS2;obtain⟨s2,Ja⟩:=Nq (s+S);have TQ:ai S:=ρx;have Qa:ai s2:=ρx;have KG:0<=s2/\s2<=(q+1)*4503599627370496:=ρa;replace IB:=KO.of_below (F:=λ_=>False) IB;have nXO:wr.heap.size≠w+1:=ρa;change Hid _ at IK hq IF Jm hn hSe Ja hs hY;go_upto_region 4 with (fail);go_upto_region 5 with (refine Go.wpList_load_mid rfl 41 _ rfl g0 (II+q*3) rfl (fo c) _ RA Tryz.underlying41 rfl ρh ?_;try simp only[fo]);refine Jw (θ4 IB G0 O0 R0) (λv=>ah v wr (aP c.r0 c.r1 c.r2) 41) ρB ?_;rintro v1 X1 ⟨F',G1,O1,R1⟩;replace cO:=O1.cell;replace fO:=O1.frozen;replace zO:=O1.size;replace cR:=R1.cell;replace fR:=R1.frozen;replace zR:=R1.size;have Rr:=X1.r;have qO:=af O1;have qR:=af R1;have qX:=af X1;refine Ws 5 (mw ?_)
   repeat (go_big_quiet_step ((first
     | (go_at_call 90;(with_reducible exact bT (oR c.r0 c.r1 c.r2 t S _ JG.1 JG.2.1 JG.2.2 ht hSe.out)))
     | (go_at_call 59;(with_reducible exact bT (iq s S s2 _ UQ TQ Ja.out Qa))))))
   refine Zq (θ5 G1 O1 R1 X1 F') ?_;rintro v2 ⟨G2,O2,R2,X2,Iz⟩;replace cO:=O2.cell;replace fO:=O2.frozen;replace zO:=O2.size;replace cR:=R2.cell;replace fR:=R2.frozen;replace zR:=R2.size;replace Rr:=X2.r;clear qO qR qX G1 O1 R1 X1;go_wp2;go_roundw;case rel=>exact⟨a++[c],r,s2,by rw[ZL,hq.out];go_num,by rw[IF.out];simp,by rw[List.map_append,List.sum_append,hs.out];simp[hSe.out,Ja.out],by rw[ZL,hq.out];exact⟨KG.1,Int.le_trans KG.2 ρp⟩,ρB,ρB,G2.ko (F:=λx=>x=w.heap.size+1) ρK σT,Iz.toBelow.trans ρE⟩
   case measure=>exact ξc
theorem AE (v:ϗ)(L:List CD)(hc:∀c ∈ L,(0<=c.r0/\0<=c.r1/\0<=c.r2)/\kd c.r0 c.r1 c.r2≠0/\c.r2<=Md)(w:ϖ)(B:Nat)(G:az 3 fo w B v L)(hl:L.length<=1000):
  CB 102 #[v,dI] w (nv (L.map λc=>c.r2).sum):=by
 obtain⟨oa,oc,rfl,-⟩:=G.slice;refine δi ?_;clear G hl;intro n hn G hl zB;obtain⟨Y,hY⟩:=Nq ((L.map λc=>c.r2).sum);rw[hY];unfold CB;go_in;go_wp2_with fail;go_loopw [12] (λk wr=>∃(a b:List CD) (s:Int),k=ι ε (a.length:Nat)/\L=a++b/\(a.map λc=>c.r2).sum=s/\(0<=s/\s<=a.length*Md)/\ah wr (w+1) #[(aV (s)),(bX (s)),(gV (s)),(iY (s))] 70/\ah wr w fD 70/\az 3 fo wr B (ζ oa n oc) L/\Below w w wr) (λk _=>n - (intOf k).toNat);case atStart=>exact⟨[],L,0,rfl,rfl,rfl,by simp,ρv,ρB,G.below ρE,ρE⟩
 case round=>
  obtain⟨a,b,s,rfl,IF,hs,PM,O0,R0,G0,IB⟩:=hrel;refine δe ?_;intro zw IK q hq;rw[hq] at IK PM ⊢;have Kk:q<=n:=ρa;have UQ:ai s:=ρx;have zO:=O0.size;have zR:=R0.size;have cO:=O0.cell;have fO:=O0.frozen;have cR:=R0.cell;have fR:=R0.frozen;cases b with
  | nil=>
   refine η8 ?_;intro IJ hd;have Jd:Y=s:=by rw[<- hY,IF,ZA];exact hs
   subst Jd;change Hid _ at IK IF hq hs hY;go_wp2_with fail;refine δ0 ?_;rintro v9 R9 k9;have Kd:=R9.cell;refine ZO (v:=nv Y) (by simp[results,Tryz.results102,go_sem,Kd]) rfl ?_;exact⟨rfl,IB.trans (k9.below zw ρC)⟩
  | cons c r=>
   refine δF ?_;intro IJ hd Jm KL;obtain⟨g0,II,rfl,hg,RA⟩:=G0.at Jm;have Na:g0<wr:=ρa;have hS:=hc c ρR;obtain⟨JG,Wl,hS2⟩:=hS;obtain⟨kv,LW⟩:=Nq (kd c.r0 c.r1 c.r2);rw[LW] at Wl;have d5:(kv !=0)=true:=by simpa using Wl
   obtain⟨s2,Ja⟩:=Nq (s+c.r2);have TQ:ai c.r2:=ρx;have Qa:ai s2:=ρx;have KG:0<=s2/\s2<=(q+1)*Md:=ρa;replace IB:=KO.of_below (F:=λ_=>False) IB;have nXO:wr.heap.size≠w+1:=ρa;clear Wl;change Hid _ at IK hq IF Jm hn LW Ja hs hY;go_upto_region 4 with (fail);go_upto_region 5 with (refine Go.wpList_load_mid rfl 41 _ rfl g0 (II+q*3) rfl (fo c) _ RA Tryz.underlying41 rfl ρh ?_;try simp only[fo]);refine Jw (θ4 IB G0 O0 R0) (λv=>ah v wr (aP c.r0 c.r1 c.r2) 41) ρB ?_;rintro v1 X1 ⟨F',G1,O1,R1⟩;replace cO:=O1.cell;replace fO:=O1.frozen;replace zO:=O1.size;replace cR:=R1.cell;replace fR:=R1.frozen;replace zR:=R1.size;have Rr:=X1.r;go_wp2_with fail;refine Zc (θ5 F' G1 O1 R1 X1) ?_;rintro v2 ⟨Iz,G2,O2,R2,X2⟩;replace cO:=O2.cell;replace fO:=O2.frozen;replace zO:=O2.size;replace cR:=R2.cell;replace fR:=R2.frozen;replace zR:=R2.size;replace Rr:=X2.r;refine(bi c.r0 c.r1 c.r2 kv v2 JG.1 JG.2.1 JG.2.2 LW.out).mono ?_;rintro e v3 ⟨rfl,kx⟩;obtain⟨G3,O3,R3,X3,ID⟩:=Mw kx (θ5 G2 O2 R2 X2 Iz);replace cO:=O3.cell;replace fO:=O3.frozen;replace zO:=O3.size;replace cR:=R3.cell;replace fR:=R3.frozen;replace zR:=R3.size;replace Rr:=X3.r;clear kx;go_upto_region 9 with (fail);refine Zw (θ5 ID G3 O3 R3 X3) ?_;rintro v4 ⟨IC,G4,O4,R4,X4⟩;replace cO:=O4.cell;replace fO:=O4.frozen;replace zO:=O4.size;replace cR:=R4.cell;replace fR:=R4.frozen;replace zR:=R4.size;replace Rr:=X4.r;have qO:=af O4;have qR:=af R4;have qX:=af X4;refine Ws 4 (mw ?_)
   repeat (go_big_quiet_step ((first
     | (go_at_call 60;(with_reducible exact bT (AD c.r2 _ JG.2.2 ρa)))
     | (go_at_call 59;(with_reducible exact bT (iq s c.r2 s2 _ UQ TQ Ja.out Qa))))))
   refine Zq (θ5 G4 O4 R4 X4 IC) ?_;rintro v5 ⟨G5,O5,R5,X5,IN⟩;replace cO:=O5.cell;replace fO:=O5.frozen;replace zO:=O5.size;replace cR:=R5.cell;replace fR:=R5.frozen;replace zR:=R5.size;replace Rr:=X5.r;clear qO qR qX G4 O4 R4 X4;go_wp2;go_roundw;case rel=>exact⟨a++[c],r,s2,by rw[ZL,hq.out];go_num,by rw[IF.out];simp,by rw[List.map_append,List.sum_append,hs.out];simp[Ja.out],by rw[ZL,hq.out];exact⟨KG.1,Int.le_trans KG.2 ρp⟩,ρB,ρB,G5.ko (F:=λx=>x=w.heap.size+1) ρK σT,IN.toBelow.trans ρE⟩
   case measure=>exact ξc
theorem Db (t l:Int)(w:ϖ):
  CB 27 #[φ #[ι ε t,ι ε l]] w (β (decide (1<=t/\t<=65536/\1<=l/\l<=16384))):=by
 obtain⟨z,hz⟩:∃z,decide (1<=t/\t<=65536/\1<=l/\l<=16384)=z:=⟨_,rfl⟩;rw[hz];by_cases c0:1<=t
 rotate_left
 ·have d0:=ZF c0;exact ξG
 have d0:=ZT c0;by_cases c1:t<=65536
 rotate_left
 ·have d1:=ZF c1;exact ξG
 have d1:=ZT c1;by_cases c2:1<=l
 rotate_left
 ·have d2:=ZF c2;exact ξG
 have d2:=ZT c2;by_cases c3:l<=16384
 rotate_left
 ·have d3:=ZF c3;exact ξG
 have d3:=ZT c3;have Jr:z=true:=by rw[<- hz];exact ZT ⟨c0,c1,c2,c3⟩
 subst Jr;replace hz:=ag hz;unfold CB;go_in;go_wp2;go_ret;exact⟨rfl,ρE⟩
theorem EL (v:ϗ)(L:List Int)(id:Int)(w:ϖ)(B:Nat)(G:az 1 (λx:Int=>[Value.int .i64 x]) w B v L)(hl:L.length<=1000):
  CB 40 #[v,ι ε id] w (β (decide (id ∈ L))):=by
 obtain⟨oa,oc,rfl,-⟩:=G.slice;refine δi ?_;clear G hl;intro n hn G hl zB;obtain⟨z,hz⟩:=Nq (decide (id ∈ L));rw[hz];unfold CB;go_in;go_wp2_with fail;go_loopw [9] (λk wr=>∃(a b:List Int),k=ι ε (a.length:Nat)/\L=a++b/\(id ∉ a)/\az 1 (λx:Int=>[Value.int .i64 x]) wr B (ζ oa n oc) L/\KO (λ_=>False) w wr) (λk _=>n - (intOf k).toNat);case atStart=>exact⟨[],L,rfl,rfl,by simp,G.below ρE,ρK⟩
 case round=>
  obtain⟨a,b,rfl,IF,I3,G0,IB⟩:=hrel;refine δe ?_;intro zw IK q hq;rw[hq] at IK ⊢;cases b with
  | nil=>
   refine η8 ?_;intro IJ hd;have Jr:z=false:=by rw[<- hz,IF,ZA];exact ZF I3
   subst Jr;change Hid _ at IK IF hq I3 hz;exact ηQ
  | cons c r=>
   refine δF ?_;intro IJ hd Jm KL;obtain⟨g0,II,rfl,hg,RA⟩:=G0.at Jm;have Na:g0<wr:=ρa;have b0:wr.cell? ⟨g0,II+q*1,none⟩=some (ι ε c):=RA 0 _ rfl;have b1:wr.cell? ⟨g0,II+q,none⟩=some (ι ε c):=τu;have QY:=IF;change Hid _ at IK hq IF Jm hn I3 hz QY;by_cases c1:c=id
   ·have d1:(c==id)=true:=by rw[c1];exact beq_self_eq_true _
    have Jr:z=true:=by rw[<- hz.out,QY.out];exact ZT (by simp[c1])
    subst Jr;clear QY;replace c1:=ag c1;exact ηQ
   ·have d1:(c==id)=false:=ZN.2 c1;have PF:id ∉ a++[c]:=λh=>(ZM.1 h).elim I3.out (λh=>c1 (ZS.1 h).symm);change Hid _ at PF c1;go_wp2;go_roundw;case rel=>exact⟨a++[c],r,by rw[ZL,hq.out];go_num,by rw[IF.out];simp,PF.out,G0.below ρE,IB.step0 ρE⟩
    case measure=>exact ξc
def Bs (x:CD)(L:List CD):Prop:=WC x=0/\(∃d,fc L x.id=some d/\d.par=x.par/\d.lf=x.lf)/\(dz x=true->kh L x.par=true)/\(dz x=false->∀a ∈ L,a.par=x.id->kh L a.id=false)
theorem Gp (v:ϗ)(L:List CD)(x:CD)(hx:CN x)(hq:∀c ∈ L,CN c)(w:ϖ)(B:Nat)(G:az 14 dR w B v L)(hl:L.length<=1000):Calls Ψ 66 #[v,φ (fx x)] w λe w'=>∃sa sn sc m,e=ϰ (φ #[ζ sa sn sc,ι ε m])/\(m=0->ae 43 14 dR w' w (ζ sa sn sc) (putS x false L)/\Bs x L)/\Below w w w':=by
 obtain⟨oa,oc,rfl,-⟩:=G.slice;refine δi ?_;clear G hl;intro n hn G hl zB;have Lv:L.length<=1000:=ρa;obtain⟨cw,XR⟩:=Nq (WC x);replace XR:=ag XR;go_in;go_wp2_with fail;refine δL ?_;intro v1 C1 R1 F' G1 v2 G2 C2 R2 Iz Rr;by_cases c1:cw=0
 rotate_left
 ·have d1:(cw !=0)=true:=by simpa using c1
  go_wp2_with fail;refine eu v2 (λx=>x=(w.heap.size+1)) (λv=>ah v ((w+1)) #[ζ oa n oc,ι ε cw] 112) ρB (λ_ kx=>kx) ?_;rintro v9 R9 k9;have Kd:=R9.cell;refine ZO (v:=φ #[ζ oa n oc,ι ε cw]) σN rfl ?_;exact⟨_,_,_,cw,rfl,λh=>ax h c1,Iz.toBelow.trans (k9.below Iz.size ρC)⟩
 subst c1;go_wp2_with fail;refine Zc (θ4 Iz G2 C2 R2) ?_;rintro v3 ⟨ID,G3,C3,R3⟩;refine(kf _ L x.id v3 B G3 ρa).mono ?_;rintro e v4 ⟨i,rfl,hi,kx⟩;clear Rr;obtain⟨⟨G4,C4,R4,IC⟩,Rr⟩:=Mx kx (θ4 G3 C3 R3 ID);clear kx;rcases hi with ⟨rfl,hf⟩|⟨kk,d,rfl,hk,hf⟩
 ·go_wp2_with fail;refine eu v4 (λx=>x=(w.heap.size+1)) (λv=>ah v ((w+1)) #[ζ oa n oc,ι ε 6] 112) ρB (λ_ kx=>kx) ?_;rintro v9 R9 k9;have Kd:=R9.cell;refine ZO (v:=φ #[ζ oa n oc,ι ε 6]) σN rfl ?_;exact⟨_,_,_,6,rfl,λh=>ax h ρf,IC.toBelow.trans (k9.below IC.size ρC)⟩
 have Wl:kk<n:=by have:=(List.getElem?_eq_some_iff.1 hk).1;omega
 have IJ:(kk:Int)<(n:Int):=ρa;obtain⟨g0,II,rfl,hg,RA⟩:=G4.at hk;have b1:v4.cell? ⟨g0,II+kk*14+1,none⟩=some (ι ε d.par):=RA 1 _ rfl;have b2:v4.cell? ⟨g0,II+kk*14+2,none⟩=some (β d.lf):=RA 2 _ rfl;change Hid _ at hk hf hn;obtain⟨dl,KZ⟩:=Nq d.lf;rw[KZ] at b2;have c2:=C4.cell 2;go_upto_region 7 with fail;go_cut [42] from 25 to 41 (λt wx=>∃z:Bool,t=β z/\(z=false->d.par=x.par/\d.lf=x.lf)/\ah wx w (fx x) 43/\ah wx (w+1) #[Kn,Kz] 112/\az 14 dR wx B (ζ (some ⟨g0,II,none⟩) n oc) L/\KO (λ_=>False) w wx);case first=>
  by_cases c3:d.par=x.par
  rotate_left
  ·have d3:(d.par !=x.par)=true:=by simpa using c3
   go_region
   all_goals (go_wp2;go_meet)
   exact⟨_,rfl,λh=>ax h ρf,ρB,ρB,G4.below ρE,IC.step0 ρE⟩
  ·have d3:(d.par !=x.par)=false:=by simp[c3]
   obtain⟨z,hz⟩:=Nq (dl !=x.lf);replace c3:=ag c3;go_region
   all_goals (go_wp2;go_meet)
   exact⟨_,rfl,λh=>⟨c3.out,by have h2:=h;rw[KZ];revert h2;cases dl<;>cases x.lf<;>simp⟩,ρB,ρB,G4.below ρE,IC.step0 ρE⟩
 case rest=>
  obtain⟨z,rfl,KE,C4',R4',G4',k04'⟩:=hcut;clear C4 R4 G4 IC;have C4:=C4';have R4:=R4';have G4:=G4';have IC:=k04';clear C4' R4' G4' k04';replace Rr:=θ2 C4.r R4.r;cases z
  rotate_left
  ·go_wp2_with fail;refine eu wc (λx=>x=(w.heap.size+1)) (λv=>ah v ((w+1)) #[ζ (some ⟨g0,II,none⟩) n oc,Ko] 112) ρB (λ_ kx=>kx) ?_;rintro v9 R9 k9;have Kd:=R9.cell;refine ZO (v:=φ #[ζ (some ⟨g0,II,none⟩) n oc,Ko]) σN rfl ?_;exact⟨_,_,_,1,rfl,λh=>ax h ρf,IC.toBelow.trans (k9.below IC.size ρC)⟩
  replace KE:=ag (KE rfl);clear b1 b2;obtain⟨kv,LW⟩:=Nq (kd x.l0 x.l1 x.l2);have Ka:dz x=cW kv:=by rw[<- LW];rfl
  obtain⟨sb,PM⟩:=Nq (kh L x.par);change Hid _ at LW Ka PM;go_wp2_with fail;refine Zc (θ4 IC C4 R4 G4) ?_;rintro v5 ⟨IN,C5,R5,G5⟩;refine(bi x.l0 x.l1 x.l2 kv v5 hx.2.1.1 hx.2.1.2.1 hx.2.1.2.2 LW.out).mono ?_;rintro e v6 ⟨rfl,kx⟩;clear Rr;obtain⟨⟨C6,R6,G6,IQ⟩,Rr⟩:=Mx kx (θ4 C5 R5 G5 IN);clear kx;obtain⟨sx,Tv⟩:=Nq (decide (1<kv));have Ju:dz x=sx:=by rw[Ka.out,<- Tv];rfl
  replace Ju:=ag Ju;go_upto_region 10 with fail;go_cut [56] from 49 to 55 (λt wx=>∃y:Bool,t=β y/\(y=false->sx=true->sb=true)/\ah wx w (fx x) 43/\ah wx (w+1) #[Kn,Kz] 112/\az 14 dR wx B (ζ (some ⟨g0,II,none⟩) n oc) L/\KO (λ_=>False) w wx);case first=>
   cases sx
   ·go_wp2;go_meet;exact⟨_,rfl,λ_ h=>ax h ρf,ρB,ρB,G6.below ρE,IQ.step0 ρE⟩
   ·go_wp2_with fail;refine Zc (θ4 IQ C6 R6 G6) ?_;rintro v7 ⟨I8,C7,R7,G7⟩;refine(oP _ L x.par hq v7 B G7 ρa).mono ?_;rintro e v8 ⟨rfl,kx⟩;clear Rr;obtain⟨⟨C8,R8,G8,Je⟩,Rr⟩:=Mx kx (θ4 C7 R7 G7 I8);clear kx;rw[PM.out];cases sb
    ·go_wp2;go_meet;exact⟨_,rfl,λh=>ax h ρf,ρB,ρB,G8.below ρE,Je.step0 ρE⟩
    ·go_wp2;go_meet;exact⟨_,rfl,λ_ _=>by first|rfl|trivial,ρB,ρB,G8.below ρE,Je.step0 ρE⟩
  case rest=>
   obtain⟨y,rfl,PN,C8,R8,G8,Je⟩:=hcut;replace Rr:=θ2 C8.r R8.r;cases y
   rotate_left
   ·go_wp2_with fail;refine eu wc (λx=>x=(w.heap.size+1)) (λv=>ah v ((w+1)) #[ζ (some ⟨g0,II,none⟩) n oc,ι ε 29] 112) ρB (λ_ kx=>kx) ?_;rintro v9 R9 k9;have Kd:=R9.cell;refine ZO (v:=φ #[ζ (some ⟨g0,II,none⟩) n oc,ι ε 29]) σN rfl ?_;exact⟨_,_,_,29,rfl,λh=>ax h ρf,Je.toBelow.trans (k9.below Je.size ρC)⟩
   replace PN:=ag (PN rfl);go_wp2_with fail;refine Zc (θ4 Je C8 R8 G8) ?_;rintro v9 ⟨Jl,C9,R9,G9⟩;refine(nh _ L x.id v9 B G9 ρa).mono ?_;rintro e Lj ⟨u,rfl,HK,kx⟩;clear Rr;obtain⟨⟨SU,Qd,Qw,I7⟩,Rr⟩:=Mx kx (θ4 C9 R9 G9 Jl);clear kx;obtain⟨zs,Vt⟩:=Nq ((List.filter (λc:CD=>c.par==x.id) L).map CD.id);have hzl:zs.length<=1000:=by rw[<- Vt,pf];exact ZK (ZH _ _) (by rw[hn.out];exact hl)
   rw[Vt] at HK;have Xx:=ae.rd HK (λ_=>rfl);obtain⟨B2,N0⟩:=Nq Lj.heap.size;rw[N0] at Xx;clear HK;obtain⟨ub,uc,rfl,-⟩:=az.slice Xx;obtain⟨m,hm⟩:=Nq zs.length;rw[hm] at Xx hzl ⊢;replace Vt:=ag Vt;have zB2:B2<=Lj:=ρa;go_wp2_with fail;go_loopw [64] (λk wr=>∃(a b:List Int),k=ι ε (a.length:Nat)/\zs=a++b/\(sx=false->∀i ∈ a,kh L i=false)/\ah wr (w+1) #[Kn,Kz] 112/\ah wr w (fx x) 43/\az 14 dR wr B (ζ (some ⟨g0,II,none⟩) n oc) L/\az 1 (λx:Int=>[Value.int .i64 x]) wr B2 (ζ ub m uc) zs/\KO (λ_=>False) w wr) (λk _=>m - (intOf k).toNat);case atStart=>exact⟨[],zs,rfl,rfl,λ_ i h=>ax h ρp,ρB,ρB,Qw.below ρE,Xx.below ρE,I7.step0 ρE⟩
   case round=>
    obtain⟨a,b,rfl,IF,I3,LH,C11,Qc,Xy,Jn⟩:=hrel;have zw:=Jn.size;have IK:a.length+b.length=m:=τY;obtain⟨q,Kk⟩:=Nq a.length;rw[Kk] at IK ⊢;clear Qd SU Qw Xx I7;have Ss:=θ2 LH.r C11.r;cases b with
    | nil=>have Kg:¬(q:Int)<(m:Int):=ρo;have hd:=ZF Kg;have hza:zs=a:=ρN;change Hid _ at IK IF Kk I3 hza;go_wp2_with fail;refine Zc (θ4 Jn LH C11 Qc) ?_;rintro Mj ⟨Jk,QA,C12,Ou⟩;refine(EX _ L x Mj B Ou ρa).mono ?_;rintro e NO ⟨u,rfl,HP,kx⟩;clear Rr Ss;obtain⟨⟨R13,C13,UU,JM⟩,Rr⟩:=Mx kx (θ4 QA C12 Ou Jk);clear kx;have UC:w.heap.size+1<Mj:=QA.size;obtain⟨ps,JX⟩:=Nq (putS x false L);rw[JX] at HP;obtain⟨pb,pc,rfl⟩:=ae.slice HP;obtain⟨y,hy⟩:∃y:Nat,ps.length=y:=⟨_,rfl⟩;rw[hy] at HP ⊢;change Hid _ at JX hy;go_wp2_with fail;refine eu NO (λx=>x=(w.heap.size+1)) (λv=>ah v ((w+1)) #[ζ pb y pc,Kz] 112) ρB (λ_ kx=>kx) ?_;rintro v9 R9 k9;have Kd:=R9.cell;refine ZO (v:=φ #[ζ pb y pc,Kz]) σN rfl ?_;exact⟨_,_,_,0,rfl,λ_=>⟨by rw[JX.out];exact(ae.ko HP k9 (λx hx _ e=>by have:=UC;omega)).base_le (by have:=UC;omega),XR.out,⟨d,hf.out,KE.out⟩,λh=>by rw[PM.out];exact PN.out (by rw[<- Ju.out];exact h),λh a ha e=>by have h9:a.id ∈ zs:=(by rw[<- Vt.out];exact List.mem_map.2 ⟨a,List.mem_filter.2 ⟨ha,beq_iff_eq.2 e⟩,rfl⟩);rw[hza.out] at h9;exact I3.out (by rw[<- Ju.out];exact h) _ h9⟩,JM.toBelow.trans (k9.below JM.size ρC)⟩
    | cons c r=>
     have Kg:(q:Int)<(m:Int):=ρo;have hd:=ZT Kg;have Jm:zs[q]?=some c:=by rw[IF,<- Kk];simp
     have KL:q<m:=ρa;have zZ:B2<=wr:=by obtain⟨_,_,_,_,h,_⟩:=Xy;exact h
     obtain⟨g1,PQ,rfl,hg1,Zg⟩:=Xy.at Jm;have b0:wr.cell? ⟨g1,PQ+q*1,none⟩=some (ι ε c):=Zg 0 _ rfl;have bb:wr.cell? ⟨g1,PQ+q,none⟩=some (ι ε c):=τu;have Na:g1<wr:=ρa;change Hid _ at IK Kk IF Jm I3 hm;cases sx
     rotate_left
     ·go_wp2;go_roundw;case rel=>exact⟨a++[c],r,by rw[ZL,Kk.out];go_num,by rw[IF.out];simp,λh=>ax h ρf,ρB,ρB,Qc.below ρE,Xy.below ρE,Jn.step0 ρE⟩
      case measure=>exact ξc
     ·obtain⟨sc,Oa⟩:=Nq (kh L c);replace Oa:=ag Oa;go_wp2_with fail;refine Zc (θ5 Jn LH C11 Qc Xy) ?_;rintro Mj ⟨Jk,QA,C12,Ou,Z12⟩;refine(oP _ L c hq Mj B Ou ρa).mono ?_;rintro e NO ⟨rfl,kx⟩;clear Rr Ss;obtain⟨⟨R13,C13,UU,Zp,JM⟩,Rr⟩:=Mx kx (θ5 QA C12 Ou Z12 Jk);clear kx;rw[Oa.out];cases sc
      rotate_left
      ·go_wp2_with fail;refine eu NO (λx=>x=(w.heap.size+1)) (λv=>ah v ((w+1)) #[ζ (some ⟨g0,II,none⟩) n oc,ι ε 29] 112) ρB (λ_ kx=>kx) ?_;rintro v9 R9 k9;have Kd:=R9.cell;refine ZO (v:=φ #[ζ (some ⟨g0,II,none⟩) n oc,ι ε 29]) σN rfl ?_;exact⟨_,_,_,29,rfl,λh=>ax h ρf,JM.toBelow.trans (k9.below JM.size ρC)⟩
      ·go_wp2;go_roundw;case rel=>exact⟨a++[c],r,by rw[ZL,Kk.out];go_num,by rw[IF.out];simp,λ_ i hi=>(ZM.1 hi).elim (I3.out (by first|rfl|trivial) i) (λh=>by rw[ZS.1 h];exact Oa.out),ρB,ρB,UU.below ρE,Zp.below ρE,JM.step0 ρE⟩
       case measure=>exact ξc
theorem n6 (x:CD)(i:Int):∀L:List CD,fc (fz x L) i=if i=x.id then some x else fc L i
 | []=>by simp[fz,fc]
 | c::r=>by
  have ih:=n6 x i r;unfold fz;by_cases h:x.id=c.id
  ·rw[ZP h];simp only[fc];by_cases e:i=x.id
   ·rw[ZP e,ZP e]
   ·rw[ZI e,ZI e,ZI ρa]
  ·rw[ZI h];exact ηZ
theorem iD {p:CD->Bool} {id:Int} (hp:∀c,p c=true↔c.id≠id)(i:Int):∀L:List CD,fc (L.filter p) i=if i=id then none else fc L i
 | []=>by simp[fc]
 | c::r=>by
  have ih:=iD hp i r;rw[List.filter_cons];by_cases h:p c=true
  ·have:=(hp c).1 h;rw[ZP h];exact ηZ
  ·have:c.id=id:=vW λg=>h ((hp c).2 g);rw[ZI h,ih];by_cases e:i=id
   ·rw[ZP e,ZP e]
   ·rw[ZI e,ZI e];simp only[fc];rw[ZI ρa]
theorem zV (id i:Int)(L:List CD):fc (pX id L) i=if i=id then none else fc L i:=iD ρp i L
theorem rU (i:Int)(b:List CD):∀a:List CD,fc (a++b) i=match fc a i with|some c=>some c|none=>fc b i
 | []=>rfl
 | c::r=>by
  simp only[List.cons_append,fc];by_cases e:i=c.id
  ·rw[ZP e,ZP e]
  ·rw[ZI e,ZI e];exact rU i b r
theorem iE (x:CD)(i:Int):∀(L:List CD)(d:Bool),fc (putS x d L) i=if i=x.id then (if d=true then none else some x) else fc L i
 | [],d=>by cases d<;>simp[putS,fc]
 | c::r,d=>by
  have ih:=iE x i r (d || decide (x.id<=c.id));unfold putS;rw[rU,rU,ih];simp only[fc];by_cases h3:i=x.id
  ·subst h3;rw[ZP rfl,ZP rfl];by_cases h2:c.id=x.id
   ·cases d with
    | true=>rw[ZI ρp,ZP h2];simp[fc]
    | false=>rw[ZP ⟨rfl,by omega⟩];simp[fc]
   ·rw[ZI h2];have h4:¬x.id=c.id:=λe=>h2 e.symm;cases d with
    | true=>rw[ZI ρp];simp[fc,h4]
    | false=>
     by_cases h1:x.id<=c.id
     ·rw[ZP ⟨rfl,h1⟩];simp[fc]
     ·rw[ZI (λg=>h1 g.2)];simp[fc,h4,h1]
  ·rw[ZI h3,ZI h3];have e1:fc (if d=false/\x.id<=c.id then [x] else []) i=none:=by split<;>simp[fc,h3]
   rw[e1];by_cases h2:c.id=x.id
   ·rw[ZP h2,ZI ρa];rfl
   ·rw[ZI h2];by_cases h4:i=c.id
    ·rw[ZP h4];simp[fc,h4]
    ·rw[ZI h4];simp[fc,h4]
theorem jl {L:List CD} {i:Int}:fc L i=none↔i ∉ L.map CD.id:=by
 induction L with
 | nil=>simp[fc]
 | cons c r ih=>
  simp only[fc,gY,ZC,not_or];by_cases e:i=c.id
  ·rw[ZP e];simp[e]
  ·rw[ZI e,ih];simp[e]
theorem iF {L:List CD} (h:(L.map CD.id).Nodup):∀c ∈ L,fc L c.id=some c:=by
 induction L with
 | nil=>intro c hc;cases hc
 | cons a r ih=>
  intro c hc;rw[gY,ZD] at h;simp only[fc];rcases ZC.1 hc with e|e
  ·rw[ZP (by rw[e]),e]
  ·rw[ZI (λg=>h.1 (by rw[<- g];exact List.mem_map.2 ⟨c,e,rfl⟩))];exact ih h.2 c e
theorem lH (x:CD):∀{L:List CD},(L.map CD.id).Nodup->((fz x L).map CD.id).Nodup
 | [],_=>by simp[fz]
 | c::r,h=>by
  rw[gY,ZD] at h;unfold fz;by_cases e:x.id=c.id
  ·rw[ZP e,gY,ZD,e];exact h
  ·rw[ZI e,gY,ZD];refine⟨?_,lH x h.2⟩;rw[<- jl,n6,ZI ρa];exact jl.2 h.1
theorem gC (p:CD->Bool) {L:List CD} (h:(L.map CD.id).Nodup):((L.filter p).map CD.id).Nodup:=h.sublist (List.filter_sublist.map _)
theorem gH (x:CD):∀{L:List CD} (d:Bool),(L.map CD.id).Nodup->((putS x d L).map CD.id).Nodup
 | [],d,_=>by cases d<;>simp[putS]
 | c::r,d,h=>by
  rw[gY,ZD] at h;have ih:=gH x (d || decide (x.id<=c.id)) h.2;have hx:d=true\/x.id<=c.id->x.id ∉ (putS x (d || decide (x.id<=c.id)) r).map CD.id:=λg=>by rw[<- jl,iE,ZP rfl,ZP (by rcases g with g|g<;>simp[g])]
  have hc:c.id≠x.id->c.id ∉ (putS x (d || decide (x.id<=c.id)) r).map CD.id:=λg=>by rw[<- jl,iE,ZI g];exact jl.2 h.1
  unfold putS;generalize hP:putS x (d || decide (x.id<=c.id)) r=P at ih hx hc;by_cases h1:d=false/\x.id<=c.id<;>by_cases h2:c.id=x.id
  ·simp only[ZP h1,ZP h2,ZA,List.singleton_append,gY,ZD];exact⟨hx (.inr h1.2),ih⟩
  ·simp only[ZP h1,ZI h2,List.singleton_append,List.cons_append,List.nil_append,gY,ZD,ZC,not_or];exact⟨⟨λg=>h2 g.symm,hx (.inr h1.2)⟩,hc h2,ih⟩
  ·simp only[ZI h1,ZP h2,List.nil_append];exact ih
  ·simp only[ZI h1,ZI h2,List.nil_append,List.singleton_append,gY,ZD];exact⟨hc h2,ih⟩
theorem gg (x:CD):∀(L:List CD)(d:Bool),(putS x d L).length<=L.length+(if d=true then 0 else 1)
 | [],d=>by cases d<;>simp[putS]
 | c::r,d=>by have ih:=gg x r (d || decide (x.id<=c.id));unfold putS;cases d<;>by_cases h1:x.id<=c.id<;>by_cases h2:c.id=x.id<;>simp[h1,h2] at ih ⊢<;>omega
def kS (k:Int)(x:CD)(L M:List CD):Prop:=(k=1/\Bp x L/\M=putS x false L)\/(k=2/\(∃d,fc L x.id=some d)/\(∀a ∈ L,a.par≠x.id)/\M=L.filter (λc:CD=>c.id !=x.id))\/(k=3/\Bs x L/\M=putS x false L)
def dq:List (Int × CD)->List CD->List CD->Prop
 | [],L,M=>M=L
 | c::r,L,M=>∃K,kS c.1 c.2 L K/\dq r K M
theorem dq.snoc {k:Int} {x:CD}:∀{a:List (Int × CD)} {L M N:List CD},dq a L M->kS k x M N->dq (a++[(k,x)]) L N
 | [],L,M,N,h,g=>by cases h;exact⟨N,g,rfl⟩
 | c::r,L,M,N,⟨K,h1,h2⟩,g=>⟨K,h1,h2.snoc g⟩
theorem pU (x c:CD):∀(L:List CD)(d:Bool),c ∈ putS x d L->c=x\/c ∈ L
 | [],d,h=>by cases d<;>simp[putS] at h;exact .inl h
 | a::r,d,h=>by
  unfold putS at h;rcases ZM.1 h with h|h
  ·rcases ZM.1 h with h|h
   ·split at h
    ·exact .inl (ZS.1 h)
    ·cases h
   ·split at h
    ·cases h
    ·exact .inr (by rw[ZS.1 h];simp)
  ·exact(pU x c r _ h).imp id (λg=>by simp[g])
theorem kS.keep {k:Int} {x:CD} {L M:List CD} (s:kS k x L M)(hx:CN x)(hq:∀c ∈ L,CN c):M.length<=L.length+1/\∀c ∈ M,CN c:=by
 have hp:(putS x false L).length<=L.length+1/\∀c ∈ putS x false L,CN c:=⟨gg x L false,λc hc=>(pU x c L false hc).elim (λe=>e ▸ hx) (hq c)⟩;rcases s with ⟨_,_,rfl⟩|⟨_,_,_,rfl⟩|⟨_,_,rfl⟩
 ·exact hp
 ·exact⟨ZK (ZH _ _) ρa,λc hc=>hq c (List.mem_filter.1 hc).1⟩
 ·exact hp
theorem Gm (v:ϗ)(L:List CD)(k:Int)(x:CD)(hx:CN x)(hq:∀c ∈ L,CN c)(w:ϖ)(B:Nat)(G:az 14 dR w B v L)(hl:L.length<=1000):Calls Ψ 45 #[v,φ #[ι ε k,ι ε x.id,ι ε x.par,β x.lf,x.r0,x.r1,x.r2,x.l0,x.l1,x.l2,x.u0,x.u1,x.u2,ι ε x.pk,ι ε x.by_]] w λe w'=>∃sa sn sc m,e=ϰ (φ #[ζ sa sn sc,ι ε m])/\(m=0->∃M,ae 43 14 dR w' w (ζ sa sn sc) M/\kS k x L M)/\Below w w w':=by
 obtain⟨oa,oc,rfl,-⟩:=G.slice;refine δi ?_;clear G hl;intro n hn G hl zB;by_cases c1:k=1
 ·subst c1;go_in;go_wp2_with fail;refine Jc (θ2 (Ks (λ_=>False) w) G) (λv=>ah v w #[Ko,ι ε x.id,ι ε x.par,β x.lf,x.r0,x.r1,x.r2,x.l0,x.l1,x.l2,x.u0,x.u1,x.u2,ι ε x.pk,ι ε x.by_] 86/\ah v (w+1) #[Kn,Kz] 112) ⟨ρB,ρB⟩ ?_;rintro v1 ⟨C1,R1⟩ ⟨F',G1⟩;have Rr:=θ2 C1.r R1.r;have hR1:=R1.size;refine(Gk _ L x hx hq v1 B G1 ρa).mono ?_;rintro e v2 ⟨sa,sn,sc,m,rfl,hm,kx⟩;clear Rr;obtain⟨⟨G2,C2,R2,Iz⟩,Rr⟩:=Mx kx (θ4 G1 C1 R1 F');clear kx;have zv1:w.heap.size<=v2:=by have:=Iz.size;exact this
  have z01:=F'.size;go_wp2_with fail;refine δs ?_;intro v9 R9 k9 Kd;refine⟨sa,sn,sc,m,rfl,λh=>?_,Iz.toBelow.trans (k9.below Iz.size ρC)⟩;refine δT ?_;intro XM hm HG;exact⟨putS x false L,HG,.inl ⟨rfl,hm.out.2,rfl⟩⟩
 by_cases c2:k=2
 ·subst c2;go_in;go_wp2_with fail;refine Jc (θ2 (Ks (λ_=>False) w) G) (λv=>ah v w #[ι ε 2,ι ε x.id,ι ε x.par,β x.lf,x.r0,x.r1,x.r2,x.l0,x.l1,x.l2,x.u0,x.u1,x.u2,ι ε x.pk,ι ε x.by_] 86/\ah v (w+1) #[Kn,Kz] 112) ⟨ρB,ρB⟩ ?_;rintro v1 ⟨C1,R1⟩ ⟨F',G1⟩;have Rr:=θ2 C1.r R1.r;have hR1:=R1.size;refine(Gs _ L x.id v1 B G1 ρa).mono ?_;rintro e v2 ⟨sa,sn,sc,m,rfl,hm,kx⟩;clear Rr;obtain⟨⟨G2,C2,R2,Iz⟩,Rr⟩:=Mx kx (θ4 G1 C1 R1 F');clear kx;have zv1:w.heap.size<=v2:=by have:=Iz.size;exact this
  have z01:=F'.size;go_wp2_with fail;refine δs ?_;intro v9 R9 k9 Kd;refine⟨sa,sn,sc,m,rfl,λh=>?_,Iz.toBelow.trans (k9.below Iz.size ρC)⟩;refine δT ?_;intro XM hm HG;exact⟨L.filter (λc:CD=>c.id !=x.id),HG,.inr (.inl ⟨rfl,hm.out.2.1,hm.out.2.2,rfl⟩)⟩
 by_cases c3:k=3
 ·subst c3;go_in;go_wp2_with fail;refine Jc (θ2 (Ks (λ_=>False) w) G) (λv=>ah v w #[ι ε 3,ι ε x.id,ι ε x.par,β x.lf,x.r0,x.r1,x.r2,x.l0,x.l1,x.l2,x.u0,x.u1,x.u2,ι ε x.pk,ι ε x.by_] 86/\ah v (w+1) #[Kn,Kz] 112) ⟨ρB,ρB⟩ ?_;rintro v1 ⟨C1,R1⟩ ⟨F',G1⟩;have Rr:=θ2 C1.r R1.r;have hR1:=R1.size;refine(Gp _ L x hx hq v1 B G1 ρa).mono ?_;rintro e v2 ⟨sa,sn,sc,m,rfl,hm,kx⟩;clear Rr;obtain⟨⟨G2,C2,R2,Iz⟩,Rr⟩:=Mx kx (θ4 G1 C1 R1 F');clear kx;have zv1:w.heap.size<=v2:=by have:=Iz.size;exact this
  have z01:=F'.size;go_wp2_with fail;refine δs ?_;intro v9 R9 k9 Kd;refine⟨sa,sn,sc,m,rfl,λh=>?_,Iz.toBelow.trans (k9.below Iz.size ρC)⟩;refine δT ?_;intro XM hm HG;exact⟨putS x false L,HG,.inr (.inr ⟨rfl,hm.out.2,rfl⟩)⟩
 have d1:(k==1)=false:=ZN.2 c1;have d2:(k==2)=false:=ZN.2 c2;have d3:(k==3)=false:=ZN.2 c3;go_in;go_upto_region 2 with fail;refine Jw (θ2 (Ks (λ_=>False) w) G) (λv=>ah v w #[ι ε k,ι ε x.id,ι ε x.par,β x.lf,x.r0,x.r1,x.r2,x.l0,x.l1,x.l2,x.u0,x.u1,x.u2,ι ε x.pk,ι ε x.by_] 86/\ah v (w+1) #[Kn,Kz] 112) ⟨ρB,ρB⟩ ?_;rintro v1 ⟨C1,R1⟩ ⟨F',G1⟩;have Rr:=θ2 C1.r R1.r;go_wp2_with fail;refine eu v1 (λx=>x=(w.heap.size+1)) (λv=>ah v ((w+1)) #[ζ oa n oc,Ko] 112) ρB (λ_ kx=>kx) ?_;rintro v9 R9 k9;have Kd:=R9.cell;refine ZO (v:=φ #[ζ oa n oc,Ko]) τx rfl ?_;exact⟨_,_,_,1,rfl,λh=>ax h ρf,F'.toBelow.trans (k9.below F'.size ρC)⟩
end Go.Proofs.YtfdlemkplejdnaaGreat
