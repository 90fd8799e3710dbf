/- WholeDelay, part 23. Conditions: none. -/
import Derived.Test.YtfdlemkplejdnaaGreatA20
import Derived.Test.YtfdlemkplejdnaaGreatA21
import Derived.ArgAppend
import Derived.Laws.IdiomCopy
namespace Go.Proofs.YtfdlemkplejdnaaGreat
open Go.RowKit Go.Sort
open Value renaming int->ι,pointer->ψ,slice->ζ,tuple->χ,agg->φ,map->μ,bool->β
open IntKind renaming u64->υ,i64->ε,u16->ω
open Ending renaming returned->ϰ
open Go.Proofs.Tryz renaming prog->Ψ,underlying3->Θ,underlying147->Δ,underlying152->Γ,underlying202->Φ,underlying39->Ξ,underlying207->Ω
open Go renaming World->ϖ,Value->ϗ
set_option linter.unusedVariables false
set_option linter.unusedSimpArgs false
set_option maxHeartbeats 8000000
set_option maxRecDepth 100000
section
variable {α:Type} {n:Nat} {enc:α->List ϗ}
def aS (n:Nat)(enc:α->List ϗ)(w:ϖ)(B:Nat)(v:ϗ)(L:List α):Prop:=∃a JN,v=ζ a L.length JN/\L.length<=maxLen/\B<=w/\(a=none->JN=0/\L=[])/\(L≠[]->∃g off,a=some ⟨g,off,none⟩/\g<B/\Aq n enc w g off L)
theorem aS.belowK {w v:ϖ} {B K:Nat} {x:ϗ} {L:List α} (h:aS n enc w B x L)(k:Below K w v)(hK:B<=K):aS n enc v B x L:=by obtain⟨a,JN,h1,h2,h3,h5,h4⟩:=h;refine⟨a,JN,h1,h2,ZK h3 k.size,h5,λhn=>?_⟩;obtain⟨g,off,e,hg,Mq⟩:=h4 hn;exact⟨g,off,e,hg,Mq.below k ρa⟩
theorem aS.below {w v:ϖ} {B:Nat} {x:ϗ} {L:List α} (h:aS n enc w B x L)(k:Below w w v):aS n enc v B x L:=h.belowK k (by obtain⟨_,_,_,_,h3,_⟩:=h;exact h3)
instance {α:Type} {n} {enc:α->List ϗ} {w B x} {L:List α}:Mv (aS n enc w B x L) w (λv'=>aS n enc v' B x L):=⟨λk h=>aS.below h k⟩
theorem aS.ko {w v:ϖ} {B:Nat} {x:ϗ} {L:List α} {F:Nat->Prop} (h:aS n enc w B x L)(k:KO F w v)(hF:∀y,y<B->¬F y):aS n enc v B x L:=by
 have h3:B<=w:=by obtain⟨_,_,_,_,h3,_⟩:=h;exact h3
 exact aS.belowK h (k.below h3 hF) (ZR _)
theorem aS.slice {w:ϖ} {B:Nat} {x:ϗ} {L:List α} (h:aS n enc w B x L):∃a JN,x=ζ a L.length JN/\L.length<=maxLen:=by obtain⟨a,JN,h1,h2,_⟩:=h;exact⟨a,JN,h1,h2⟩
theorem aS.nil (w:ϖ):aS n enc w 0 Kn []:=⟨none,0,rfl,by simp[maxLen],Nat.zero_le _,λ_=>⟨rfl,rfl⟩,λh=>az rfl h⟩
theorem aS.at {w:ϖ} {B:Nat} {a:Option Addr} {m JN:Nat} {L:List α} (h:aS n enc w B (ζ a m JN) L) {i:Nat} {x:α} (hi:L[i]?=some x):∃g off,a=some ⟨g,off,none⟩/\g<B/\w.rangeAt g (off+i*n) (enc x):=by obtain⟨a',Ps,h1,h2,h3,_,h4⟩:=h;have e:=(ZV h1).1;subst e;obtain⟨g,off,e,hg,Mq⟩:=h4 (λe=>by rw[e] at hi;simp at hi);exact⟨g,off,e,hg,λj u hj=>Mq i x hi j u hj⟩
theorem aS.rng {w:ϖ} {B g off m JN:Nat} {L:List α} (h:aS n enc w B (ζ (some ⟨g,off,none⟩) m JN) L) {i:Nat} {x:α} (hi:L[i]?=some x):w.rangeAt g (off+i*n) (enc x):=by obtain⟨g',off',e,_,h2⟩:=h.at hi;cases e;exact h2
theorem aS.cell {w:ϖ} {B g off m JN:Nat} {L:List α} (h:aS n enc w B (ζ (some ⟨g,off,none⟩) m JN) L) {i:Nat} {x:α} (hi:L[i]?=some x)(j:Nat) {u:ϗ} (hu:(enc x)[j]?=some u):w.cell? ⟨g,off+i*n+j,none⟩=some u:=h.rng hi j u hu
theorem aS.some {w:ϖ} {B m JN:Nat} {a:Option Addr} {L:List α} (h:aS n enc w B (ζ a m JN) L)(JX:L≠[]):∃g off,a=some ⟨g,off,none⟩:=by obtain⟨a',Ps,h1,_,_,_,h4⟩:=h;obtain⟨g,off,e,_,_⟩:=h4 JX;exact⟨g,off,by rw[(ZV h1).1,e]⟩
theorem af.rd {e:TypeId} {w:ϖ} {base:Nat} {v:ϗ} {L:List α} (h:af e n enc w base v L)(hn:∀x,(enc x).length=n):aS n enc w w v L:=by
 obtain⟨a,JN,g,h1,h2,h3,h4,h5⟩:=h.at hn;obtain⟨_,hh⟩:=h;have hm:L.length<=maxLen/\(a=none->JN=0/\L=[]):=by
  rcases hh with ⟨hv,h0⟩|⟨g',Ps,cur,hv,_,_,hc,hm,_⟩
  ·rw[h0];refine⟨Nat.zero_le _,λ_=>?_⟩;rw[h1] at hv;exact⟨(ZV hv).2.2,List.length_eq_zero_iff.1 h0⟩
  ·refine⟨by omega,λha=>?_⟩;rw[h1,ha] at hv;exact az (ZV hv).1 ρp
 exact⟨a,JN,h1,hm.1,ZR _,hm.2,λJX=>⟨g,0,h3 JX,h4 JX,h5⟩⟩
theorem af.zero {e:TypeId} {w:ϖ} {base g:Nat} (h:ah w g #[] e)(hb:base<=g):af e n enc w base (ζ g 0 0) []:=
 ⟨by simp,.inr ⟨g,0,#[],rfl,hb,h,ZR _,by unfold maxLen;omega,by simp,by simp⟩⟩
end
open Go.Lib in
theorem kD {α:Type} {e:TypeId} {n:Nat} {enc:α->List ϗ} {st:TypeId} {by_:Nat} {z:ϗ} (hu:Ψ.underlying st=some (.slice e))(PC:(Ψ.info? e).map (λi=>(i.zero,i.size,i.bytes))=some (some z,n,by_))(hz:z.cells.size=n)(hn:∀x,(enc x).length=n)(h1:∀x,∀u ∈ enc x,u.oneCell'=true)(Mu:0<n)(Yl:by_<=1000)
  {w:ϖ} {JF:Array Oper} {rest:List Oper} {o:Oper} {a:Act} {Q:Exit->Act->ϖ->Prop} (Mt:o.guard=none) (sl x:Operand)
  (ho:o.op=.call {callee:=.builtin .append,args:=#[sl,x],argTypes:=#[st,st]})
  (base B:Nat) (v y:ϗ) (s L:List α) (hs:a.eval sl=v) (hx:a.eval x=y) (h:af e n enc w base v s) (hR:aS n enc w B y L) (Lz:s.length+L.length<=1000000) (Na:base<=w)
  (hk:∀v' w',af e n enc w' base v' (s++L)->KO (λx=>some x=v.ownBlock) w w'->wpList Ψ JF Q rest (a.put o.dst v') w'):wpList Ψ JF Q (o::rest) a w:=by
 refine wpList_plain Mt λK hK=>?_;obtain⟨i,hi,q⟩:=Option.map_eq_some_iff.1 PC;simp only[Prod.mk.injEq] at q;obtain⟨ya,JN,rfl,hm,hB,RH,Mq⟩:=hR;cases ya with
 | none=>
  obtain⟨rfl,rfl⟩:=RH rfl;have hr:(Builtin.append_ #[st,st] o.type #[v,Kn]).run Ψ w=.ok v w:=by
   rcases h.2 with ⟨rfl,_⟩|⟨g,JN,cur,rfl,hg,hh,hc,hm,Ki,ht⟩
   ·simp[Builtin.append_,run_underlying hu,Result.andThen,go_sem,sizeOf,typeInfo,hi]
   ·have:s.length+0<=JN:=by omega
    simp[Builtin.append_,run_underlying hu,Result.andThen,go_sem,sizeOf,typeInfo,hi,hc]
  unfold Oper.wp execOp;simp only[ho,resolve,invoke,builtin,Sem.run_bind,Sem.run_pure,Result.andThen_ok,List.map_toArray,fV,List.map_nil,hs,hx,List.length_nil,hr];exact hK _ _ (hk _ _ (by rw[ZA];exact h) (KO.refl _ _))
 | some ad=>
  obtain⟨v',w',hr,h2,h3,_⟩:=run_append_own_at (P:=Ψ) w base st o.type e i z n by_ hu hi q.1 q.2.1 q.2.2 hz Mu v s.length (s.flatMap enc) h ad L.length JN (L.flatMap enc) (gd hn L) (λj u hj=>by
   have JX:L≠[]:=λe=>by rw[e] at hj;simp at hj
   obtain⟨g,off,e,hg,hA⟩:=Mq JX;cases e
   rw[Addr.add_mid];exact Aq.flat hn Mu hA j u hj) σJ σZ κi Na
  refine η9 ?_;refine hK _ _ (hk v' w' ?_ ⟨h3.os,h3.tape,h3.output,h3.size,λk hk JX=>h3.block k hk JX⟩);unfold af;rw[ZL,List.flatMap_append];exact h2
theorem qI {P:Program} {JF:Array Oper} {rest:List Oper} {op:Oper} {a:Act} {v:ϖ} {Q:Act->Prop} (ty:TypeId)(x:Operand)(g o:Nat)(cs:List ϗ)(d:TypeDesc)
  (ho:op.op=.load ty x) (hw:Region.wanted op (yielded JF a.tmps)=true) (hx:a.eval x=ψ (some ⟨g,o,none⟩)) (hA:∀w',Below v v w'->w'.rangeAt g o cs) (hu:P.underlying ty=some d) (hd:d.isRow=true) (hi:(P.info? ty).map (·.size)=some cs.length)
  (h:wpQuiet P JF (λw'=>∃p:Regrown,w'=grow (redrawn v p.d) p.os) Q rest (a.put op.dst (φ cs.toArray))):wpQuiet P JF (λw'=>∃p:Regrown,w'=grow (redrawn v p.d) p.os) Q (op::rest) a:=by
 refine wpQuiet_step λK hK=>?_;rw[ZP hw];refine⟨φ cs.toArray,λw' Ov=>?_,hK _ h⟩;obtain⟨p,rfl⟩:=Ov;have hl:=run_loadVar_mid (P:=P) (grow (redrawn v p.d) p.os) g o ty cs d (hA _ (ZW _ _ _)) hu hd hi;unfold Oper.quietAt execOp;simp only[ho,hx,Instr.loadAt,Instr.sureAddr,Sem.run_bind,Sem.run_pure,Result.andThen_ok,hl,Oper.quietUpon];exact⟨trivial,by simp⟩
abbrev EZ (u:ϗ):Prop:=∃k:Int,u=ι υ k
def QS (w:ϖ)(fp:Nat->Prop)(N:Nat)(v:ϗ):Prop:=v=Kn\/∃(g off n JN:Nat)(cs:Array ϗ),v=ζ (some ⟨g,off,none⟩) n JN/\ah w g cs 39/\off+JN<=cs.size/\n<=JN/\n<=N/\JN<=maxLen/\(∀(i:Nat) u,cs[i]?=some u->EZ u)/\fp g
theorem QS.mono {w w':ϖ} {fp NF:Nat->Prop} {N N':Nat} {v:ϗ} (h:QS w fp N v)(hN:N<=N')(hf:∀x,fp x->NF x)(hb:∀g cs,fp g->ah w g cs 39->(∀(i:Nat) u,cs[i]?=some u->EZ u)->∃cs',ah w' g cs' 39/\cs.size<=cs'.size/\∀(i:Nat) u,cs'[i]?=some u->EZ u):QS w' NF N' v:=by
 rcases h with h|⟨g,off,n,JN,cs,e,h1,h2,h3,h4,h5,h6,h7⟩
 ·exact .inl h
 ·obtain⟨cs',k1,k2,k3⟩:=hb g cs h7 h1 h6;exact .inr ⟨g,off,n,JN,cs',e,k1,by omega,h3,by omega,h5,k3,hf _ h7⟩
theorem QS.of_ko {w w':ϖ} {fp NF F:Nat->Prop} {N N':Nat} {v:ϗ} (h:QS w fp N v)(hN:N<=N')(hf:∀x,fp x->NF x)(k:KO F w w')(hF:∀g cs,fp g->ah w g cs 39->¬F g):QS w' NF N' v:=
 h.mono hN hf λg cs hg hb hu=>⟨cs,(k.block g hb.size (hF g cs hg hb)).trans hb,ZR _,hu⟩
def aZ (w:ϖ)(B:Nat)(fp:Nat->Prop)(N:Nat):Prop:=∃(MC MR:Nat)(LC LR:List (Int × ϗ)),ah w B #[.map (some MC),.map (some MR)] 171/\aB w MC LC/\aB w MR LR/\(∀p ∈ LC,QS w fp N p.2)/\(∀p ∈ LR,∃a b c d e:Int,p.2=φ #[a,b,c,d,e])/\fp B/\fp MC/\fp MR/\MC≠MR/\∀x,fp x->x<w.heap.size
theorem aZ.ko {w w':ϖ} {B N:Nat} {fp F:Nat->Prop} (h:aZ w B fp N)(k:KO F w w')(hF:∀x,fp x->¬F x):aZ w' B fp N:=by obtain⟨MC,MR,LC,LR,h1,h2,h3,h4,h5,h6,h7,h8,h9,Qr⟩:=h;exact⟨MC,MR,LC,LR,(k.block B h1.size (hF _ h6)).trans h1,h2.ko k (hF _ h7),h3.ko k (hF _ h8),λp hp=>(h4 p hp).of_ko (ZR _) (λ_ h=>h) k (λg _ hg _=>hF g hg),h5,h6,h7,h8,h9,λx hx=>ZB (Qr x hx) k.size⟩
theorem aZ.below {w w':ϖ} {B N:Nat} {fp:Nat->Prop} (h:aZ w B fp N)(k:Below w w w'):aZ w' B fp N:=h.ko (KO.of_below (F:=λ_=>False) k) (λ_ _ f=>f)
instance {w B fp N}:Mv (aZ w B fp N) w (λv'=>aZ v' B fp N):=⟨λk h=>aZ.below h k⟩
theorem aZ.mono {w:ϖ} {B N N':Nat} {fp:Nat->Prop} (h:aZ w B fp N)(hN:N<=N'):aZ w B fp N':=by obtain⟨MC,MR,LC,LR,h1,h2,h3,h4,h5,h6,h7,h8,h9,Qr⟩:=h;exact⟨MC,MR,LC,LR,h1,h2,h3,λp hp=>(h4 p hp).of_ko hN (λ_ h=>h) (KO.refl (λ_=>False) w) (λ_ _ _ _ f=>f),h5,h6,h7,h8,h9,Qr⟩
theorem oQ {k:Int} {v:ϗ}:∀{L:List (Int × ϗ)},lk k L=some v->∃p ∈ L,p.2=v
 | [],h=>by simp[lk] at h
 | (j,u)::r,h=>by
  unfold lk at h;by_cases e:k=j
  ·rw[ZP e] at h;cases h;exact⟨(j,_),List.mem_cons_self ..,rfl⟩
  ·rw[ZI e] at h;obtain⟨p,hp,e⟩:=oQ h;exact⟨p,sA _ hp,e⟩
theorem jC {k:Int} {v:ϗ}:∀{L:List (Int × ϗ)} {p:Int × ϗ},p ∈ dJ k v L->p.2=v\/p ∈ L
 | [],p,h=>by simp[dJ] at h;subst h;exact .inl rfl
 | (j,u)::r,p,h=>by
  unfold dJ at h;by_cases e:k=j
  ·rw[ZP e] at h;rcases ZC.1 h with h|h
   ·subst h;exact .inl rfl
   ·exact .inr (by simp[h])
  ·rw[ZI e] at h;rcases ZC.1 h with h|h
   ·exact .inr (by simp[h])
   ·rcases jC h with h|h
    ·exact .inl h
    ·exact .inr (by simp[h])
theorem QS.look {w:ϖ} {fp:Nat->Prop} {N:Nat} {LC:List (Int × ϗ)} (h:∀p ∈ LC,QS w fp N p.2)(k:Int):QS w fp N ((lk k LC).getD Kn):=by
 cases e:lk k LC with
 | none=>exact .inl rfl
 | some v=>obtain⟨p,hp,rfl⟩:=oQ e;exact h p hp
theorem zK:(Ψ.info? 39).map (λi=>(i.zero,i.size,i.bytes))=some (some (ι υ 0),1,8):=by kernel_rfl
theorem oZ {w:ϖ} {fp:Nat->Prop} {N:Nat} {v:ϗ} (h:QS w fp N v)(hN:N<=1000000)(JM:∀x,fp x->x<w.heap.size) {X:Nat} {k:Int} (hX:ah w X #[k] 39)(ty:TypeId):
  ∃v' w',(Builtin.append_ #[197,197] ty #[v,ζ X 1 1]).run Ψ w=.ok v' w'/\QS w' (λx=>fp x\/(w<=x/\x<w')) (N+1) v'/\
   (∀u,QS w fp N u->QS w' (λx=>fp x\/(w<=x/\x<w')) (N+1) u)/\∃F:Nat->Prop,KO F w w'/\∀x,F x->fp x/\∃cs,ah w x cs 39:=by
 obtain⟨i,hi,q⟩:=Option.map_eq_some_iff.1 zK;simp only[Prod.mk.injEq] at q;have Vg:∀(v:ϖ),v.heap[X]?=w.heap[X]?->∀(j:Nat) u,[Value.int .u64 k][j]?=some u->v.cell? ((⟨X,0,none⟩:Addr).add j)=some u:=λv hv j u hj=>by rw[Addr.add_mid,ah.cell (hv.trans hX),Nat.zero_add,<- Array.getElem?_toList];exact hj
 have Xm:∀u ∈ [Value.int .u64 k],u.oneCell'=true:=λu hu=>by simp at hu;subst hu;rfl
 have hkeep:∀{w':ϖ},Below w w w'->(∀u,QS w fp N u->QS w' (λx=>fp x\/(w<=x/\x<w')) (N+1) u):=λb u hu=>hu.of_ko ρa (λ_ h=>.inl h) (KO.of_below (F:=λ_=>False) b) (λ_ _ _ _ f=>f);have Ys:∀(NZ:List ϗ) (n JN:Nat),(∀u ∈ NZ,EZ u)->NZ.length=n->n<=N->JN<n+1->∀v' w',v'=ζ w (n+1) (grownCap w (n+1) JN 39)->w'=w.drew.alloc (.cells (NZ.toArray++[Value.int .u64 k].toArray++Builtin.zeroCells (Value.int .u64 0).cells (grownCap w (n+1) JN 39 - (n+1))) 39)->
   QS w' (λx=>fp x\/(w<=x/\x<w')) (N+1) v'/\(∀u,QS w fp N u->QS w' (λx=>fp x\/(w<=x/\x<w')) (N+1) u)/\∃F:Nat->Prop,KO F w w'/\∀x,F x->fp x/\∃cs,ah w x cs 39:=by
  rintro NZ n JN hou Xl hn hc v' w' rfl rfl;have hb:Below w w (w.drew.alloc (.cells (NZ.toArray++[Value.int .u64 k].toArray++Builtin.zeroCells (Value.int .u64 0).cells (grownCap w (n+1) JN 39 - (n+1))) 39)):=ρE;have Yr:=grownCap_ge w (n+1) JN 39;refine⟨.inr ⟨w,0,n+1,_,_,rfl,ρB,?_,Yr,by omega,grownCap_le_maxLen _ _ _ _ σZ,?_,.inr ⟨ZR _,by simp⟩⟩,hkeep hb,λ_=>False,KO.of_below hb,λ_ f=>f.elim⟩
  ·simp only[Array.size_append,List.size_toArray,size_zeroCells,Xl];simp[Value.cells];omega
  ·intro j u hj;have hu:=Array.mem_of_getElem? hj;simp only[Array.mem_append,List.mem_toArray] at hu;rcases hu with (hu|hu)|hu
   ·exact hou u hu
   ·simp at hu;exact⟨k,hu⟩
   ·unfold Builtin.zeroCells at hu;obtain⟨m,_,rfl⟩:=Array.mem_map.1 hu;exact⟨0,by simp[Value.cells,Nat.mod_one]⟩
 rcases h with rfl|⟨g,off,n,JN,cs,rfl,h1,h2,h3,h4,h5,h6,h7⟩
 ·have hr:=run_append_nil (P:=Ψ) w 197 ty 39 i _ Tryz.underlying197 hi q.1 ⟨X,0,none⟩ 1 1 [k] (by rw[q.2.1];rfl) (Vg w rfl) ρa ρa (by rw[q.2.2];omega);exact⟨_,_,hr,Ys [] 0 0 (λu hu=>by simp at hu) rfl ρa ρa _ _ rfl ρp⟩
 ·have NG:∀j,w.cell? ⟨g,j,none⟩=cs[j]?:=λj=>h1.cell j;by_cases NK:n+1<=JN
  ·have KQ:off+n<cs.size:=by omega
   have hr:=run_append_room_cells (P:=Ψ) w 197 ty 39 i Tryz.underlying197 hi g off n JN ⟨X,0,none⟩ 1 1 [k] (by rw[q.2.1];rfl) (Vg w rfl) Xm NK (λj hj=>by simp at hj;subst hj;rw[NG,q.2.1];simp[KQ]) (λj hj=>h1.frozen _)
   rw[q.2.1,Nat.mul_one] at hr;have hB:ah (w.setCell ⟨g,off+n,none⟩ k) g (cs.setIfInBounds (off+n) k) 39:=h1.set_same rfl;have hu:∀(i:Nat) u,(cs.setIfInBounds (off+n) k)[i]?=some u->EZ u:=λi u hi=>by
    rw[Array.getElem?_setIfInBounds] at hi;split at hi
    ·cases hi;exact⟨_,rfl⟩
    ·exact h6 i u hi
   have hko:KO (λx=>x=g) w (w.setCell ⟨g,off+n,none⟩ k):=ρK;refine⟨_,_,hr,.inr ⟨g,off,n+1,JN,_,rfl,hB,by simpa using h2,NK,by omega,h5,hu,.inl h7⟩,λu hq=>hq.mono ρa (λ_ h=>.inl h) (λg' cs' hf f' Uo=>?_),λx=>x=g,hko,λx hx=>by subst hx;exact⟨h7,_,h1⟩⟩;by_cases e:g'=g
   ·subst e;have:cs'=cs:=by have:=f'.symm.trans h1;simp at this;exact this
    subst this;exact⟨_,hB,by simp,hu⟩
   ·exact⟨cs',(hko.block g' f'.size e).trans f',ZR _,Uo⟩
  ·obtain⟨NZ,Xl,hoc,hou⟩:∃NZ:List ϗ,NZ.length=n/\(∀(j:Nat) u,NZ[j]?=some u->cs[off+j]?=some u)/\∀u ∈ NZ,EZ u:=by
    refine⟨(cs.toList.drop off).take n,by simp;omega,λj u hj=>?_,λu hu=>?_⟩
    ·have hjn:j<n:=by have:=(List.getElem?_eq_some_iff.1 hj).1;simp at this;omega
     rw[List.getElem?_take_of_lt hjn,List.getElem?_drop,Array.getElem?_toList] at hj;exact hj
    ·obtain⟨j,hj⟩:=List.getElem?_of_mem (List.mem_of_mem_drop (List.mem_of_mem_take hu));rw[Array.getElem?_toList] at hj;exact h6 j u hj
   have hr:=run_append_grow (P:=Ψ) w 197 ty 39 i _ Tryz.underlying197 hi q.1 ⟨g,off,none⟩ n JN NZ (by rw[q.2.1,Nat.mul_one];exact Xl) (λj u hj=>by rw[Addr.add_mid,NG];exact hoc j u hj) ⟨X,0,none⟩ 1 1 [k] (by rw[q.2.1];rfl) (Vg w rfl) ρa ρa (growslice_fits ρa (by rw[q.2.2];omega));exact⟨_,_,hr,Ys NZ n JN hou Xl h4 ρa _ _ rfl rfl⟩
theorem mV {JF:Array Oper} {o:Oper} {a:Act} {K:Act->ϖ->Prop} {Q:Exit->Act->ϖ->Prop} {E:Prop} {w:ϖ} (Mt:o.guard=none)(s x:Operand)
  (ho:o.op=.call {callee:=.builtin .append,args:=#[s,x],argTypes:=#[197,197]})
  {fp:Nat->Prop} {N:Nat} {v:ϗ} (hs:a.eval s=v) (h:QS w fp N v) (hN:N<=1000000) (JM:∀x,fp x->x<w.heap.size) {X:Nat} {k:Int} (hx:a.eval x=ζ X 1 1) (hX:ah w X #[k] 39)
  (hk:∀v' w',QS w' (λx=>fp x\/(w<=x/\x<w')) (N+1) v'->(∀u,QS w fp N u->QS w' (λx=>fp x\/(w<=x/\x<w')) (N+1) u)->(∃F:Nat->Prop,KO F w w'/\∀x,F x->fp x/\∃cs,ah w x cs 39)->K (a.put o.dst v') w'):
  if Region.wanted o (yielded JF a.tmps)=true then Oper.wp Ψ o a w K Q else E:=by
 have hw:Region.wanted o (yielded JF a.tmps)=true:=by simp[Region.wanted,Mt]
 rw[ZP hw];obtain⟨v',w',hr,h1,h2,h3⟩:=oZ h hN JM hX o.type;refine η9 ?_;exact hk v' w' h1 h2 h3
def CN (c:CD):Prop:=(0<=c.r0/\0<=c.r1/\0<=c.r2)/\(0<=c.l0/\0<=c.l1/\0<=c.l2)/\(0<=c.u0/\0<=c.u1/\0<=c.u2)
theorem qN {w:ϖ} {b o:Nat} {cs ds:List ϗ} (h:w.rangeAt b o cs)(p n:Nat)(e:(cs.drop p).take n=ds):w.rangeAt b (o+p) ds:=by
 intro j v hj;subst e;have Qd:cs[p+j]?=some v:=by
  rw[List.getElem?_take] at hj;split at hj
  ·rwa [List.getElem?_drop] at hj
  ·exact az hj ρp
 rw[Nat.add_assoc];exact h _ _ Qd
abbrev eI (c:CD):List ϗ:=[ι ε c.id,ι ε c.par,β c.lf,ι υ c.r0,ι υ c.r1,ι υ c.r2,ι υ c.l0,ι υ c.l1,ι υ c.l2,ι υ c.u0,ι υ c.u1,ι υ c.u2,ι ε c.pk,ι ε c.by_]
theorem gF (c:CD):∀u ∈ eI c,u.oneCell'=true:=by intro u h;simp[eI] at h;rcases h with rfl|rfl|rfl|rfl|rfl|rfl|rfl|rfl|rfl|rfl|rfl|rfl|rfl|rfl<;>rfl
theorem jX {p:CD->Bool} {c:CD} (h:p c=false):[c].filter p=[]:=by rw[List.filter_cons,h];rfl
theorem i9 {p:CD->Bool} {c:CD} (h:p c=true):[c].filter p=[c]:=by rw[List.filter_cons,h];rfl
theorem dA:(Ψ.info? 43).map (λi=>(i.zero,i.size,i.bytes))=some (some (φ (kR 0 0 false 0 0 0 0 0 0 0 0 0 0 0)),14,112):=by kernel_rfl
theorem nw (v:ϗ)(L:List CD)(id:Int)(w:ϖ)(B:Nat)(G:aS 14 eI w B v L)(hl:L.length<=1000):Calls Ψ 17 #[v,ι ε id] w λe w'=>∃i:Int,e=ϰ (ι ε i)/\(i=-1/\fc L id=none\/∃(k:Nat)(c:CD),i=k/\L[k]?=some c/\fc L id=some c)/\Below w w w':=by
 obtain⟨oa,oc,rfl,-⟩:=G.slice;refine δf ?_;clear G hl;intro n hn G hl zB;go_in;go_wp2_with fail;go_loopw [9] (λk wr=>∃(a b:List CD),k=ι ε (a.length:Nat)/\fc L id=fc b id/\L=a++b/\aS 14 eI wr B (ζ oa n oc) L/\Below w w wr) (λk _=>n - (intOf k).toNat);case atStart=>exact⟨[],L,rfl,rfl,rfl,G.below ρE,ρE⟩
 case round=>
  obtain⟨a,b,rfl,hf,JK,G0,JG⟩:=hrel;refine δa ?_;intro zw JO q hq;rw[hq] at JO ⊢;cases b with
  | nil=>refine η4 ?_;intro JM hd;have Qv:fc L id=none:=hf;change Hid _ at JO hf Qv;clear JK;go_wp2;go_ret;exact⟨-1,rfl,.inl ⟨rfl,Qv.out⟩,JG.trans ρE⟩
  | cons c r=>
   refine δD ?_;intro JM hd Kd;have My:q<n:=ρa;obtain⟨g0,off,rfl,hg,RA⟩:=G0.at Kd;have Oc:g0<wr:=ρa;have Kc:=Kd;have Vn:=JK;change Hid _ at JO hq JK Kd hn Vn;replace JG:=KO.of_below (F:=λ_=>False) JG;go_upto_region 3 with (fail);go_upto_region 4 with (refine Go.wpList_load_mid rfl 43 _ rfl g0 (off+q*14) rfl (eI c) _ RA Tryz.underlying43 rfl ρh ?_;try simp only[eI]);refine Jw (θ2 JG G0) (λv=>ah v wr (fd c) 43) ρB ?_;rintro v1 X1 ⟨I',G1⟩;have Rr:=X1.r;by_cases ci:c.id=id
   ·have d1:(c.id==id)=true:=by rw[ci];exact beq_self_eq_true _
    have Qv:fc L id=some c:=by rw[hf];unfold fc;rw[ZP ci.symm]
    change Hid _ at hf Qv;go_wp2;go_ret;exact⟨q,rfl,.inr ⟨q,c,rfl,Kc,Qv.out⟩,(I'.step0 ρE).toBelow⟩
   ·have d1:(c.id==id)=false:=ZN.2 ci;have Qv:fc L id=fc r id:=by rw[hf];show (if id=c.id then _ else _)=_;rw[ZI (Ne.symm ci)]
    change Hid _ at hf Qv;go_wp2;go_roundw;case rel=>exact⟨a++[c],r,by rw[ZL,hq.out];go_num,Qv.out,by rw[JK.out];simp,G1.below ρE,(I'.step0 ρE).toBelow⟩
    case measure=>exact ξc
theorem oV (v:ϗ)(L:List CD)(id:Int)(hq:∀c ∈ L,CN c)(w:ϖ)(B:Nat)(G:aS 14 eI w B v L)(hl:L.length<=1000):
  CB 96 #[v,ι ε id] w (β (kJ L id)):=by
 obtain⟨oa,oc,rfl,-⟩:=G.slice;refine δf ?_;clear G hl;intro n hn G hl zB;obtain⟨s,hs⟩:=Nq (kJ L id);rw[hs];unfold CB;go_in;go_wp2_with fail;refine(nw _ L id _ B (G.below ρE) ρa).mono ?_;rintro e v1 ⟨i,rfl,hi,kx⟩;have I':Below w w v1:=Below.trans ρE kx;have G1:=G.below I';have zv:=I'.size;by_cases ci:id=0
 ·have d1:(id==0)=true:=by rw[ci];rfl
  have Ki:s=true:=by rw[<- hs,ci];unfold kJ;cases fc L 0<;>simp
  subst Ki;replace hs:=ag hs;clear hi;go_wp2;go_ret;exact⟨rfl,I'.trans ρE⟩
 ·have d1:(id==0)=false:=ZN.2 ci;rcases hi with ⟨rfl,hf⟩|⟨k,c,rfl,hk,hf⟩
  ·have Ki:s=false:=by rw[<- hs];unfold kJ;rw[hf];simp[ci]
   subst Ki;change Hid _ at hs hf;go_wp2;go_ret;exact⟨rfl,I'.trans ρE⟩
  ·have hnn:k<n:=by have:=(List.getElem?_eq_some_iff.1 hk).1;omega
   have JM:(k:Int)<(n:Int):=ρa;obtain⟨g0,off,rfl,hg,RA⟩:=G1.at hk;have Le:=List.mem_of_getElem? hk;have KR:=hq c Le;have RB:v1.rangeAt g0 (off+k*14+6) [c.l0,c.l1,c.l2]:=qN RA 6 3 rfl;have Ki:s=de (kd c.l0 c.l1 c.l2):=by rw[<- hs];unfold kJ;rw[hf];simp[ci]
   obtain⟨kv,LQ⟩:=Nq (kd c.l0 c.l1 c.l2);rw[LQ] at Ki;change Hid _ at hs hf hk;clear Le hq;obtain⟨x,hx⟩:=Nq (de kv);rw[hx] at Ki;subst Ki;have d2:decide (1<kv)=s:=hx;clear hx;have b0:v1.cell? ⟨g0,off+k*14+6,none⟩=some (ι υ c.l0):=RB 0 _ rfl;have b1:v1.cell? ⟨g0,off+k*14+6+1,none⟩=some (ι υ c.l1):=RB 1 _ rfl;have b2:v1.cell? ⟨g0,off+k*14+6+2,none⟩=some (ι υ c.l2):=RB 2 _ rfl;go_wp2_with fail;refine(bM c.l0 c.l1 c.l2 kv _ KR.2.1.1 KR.2.1.2.1 KR.2.1.2.2 LQ).mono ?_;rintro e v2 ⟨rfl,ky⟩;go_wp2;go_ret;exact⟨rfl,(I'.trans (ky.mono zv)).trans ρE⟩
def Cj:Nat->List CD->Int->List Int
 | 0,_,_=>[]
 | k+1,L,i=>match fc L i with | none=>[] | some c=>i::Cj k L c.par
theorem JB (v:ϗ)(L:List CD)(id:Int)(w:ϖ)(B:Nat)(G:aS 14 eI w B v L)(hl:L.length<=1000):Calls Ψ 41 #[v,ι ε id] w λe w'=>∃u,e=ϰ u/\HI w' w u (Cj 70 L id)/\Below w w w':=by
 obtain⟨oa,oc,rfl,-⟩:=G.slice;refine δf ?_;clear G hl;intro n hn G hl zB;obtain⟨X,hX⟩:=Nq (Cj 70 L id);rw[hX];go_in;go_wp2_with fail;go_loopw [5,6,9] (λo a k wr=>∃(q:Nat) (i:Int) (xs:List Int),k=ι ε q/\q<=70/\a=ι ε i/\X=xs++Cj (70 - q) L i/\xs.length=q/\HI wr w o xs/\aS 14 eI wr B (ζ oa n oc) L/\Below w w wr) (λ_ _ k _=>70 - (intOf k).toNat);case atStart=>exact⟨0,id,[],rfl,by omega,rfl,hX.symm,rfl,af.nil _ _,G.below ρE,ρE⟩
 case round=>
  obtain⟨q,i,xs,rfl,hq7,rfl,JK,RO,H0,G0,JG⟩:=hrel;have zw:=JG.size;obtain⟨ob,oe,rfl⟩:=H0.slice;rw[RO] at H0 ⊢;replace hX:=ag hX;by_cases cq:q<70
  rotate_left
  ·have hd:=df ((q:Int)<70);have e0:70 - q=0:=ρa;have NY:X=xs:=by rw[JK,e0];simp[Cj]
   subst NY;change Hid _ at JK RO;clear e0;go_wp2;go_ret;exact⟨_,rfl,H0.below ρE,JG.trans ρE⟩
  ·have hd:=dt ((q:Int)<70);obtain⟨p,hp⟩:∃p,70 - q=p+1:=⟨69 - q,by omega⟩;rw[hp] at JK;have hxl7:xs.length<=70:=ρa;change Hid _ at JK RO hp;have zB2:B<=wr:=ρa;go_wp2_with fail;refine(nw _ L i _ B (G0.below ρE) ρa).mono ?_;rintro e v1 ⟨j,rfl,hj,kx⟩;have I':Below wr wr v1:=Below.trans ρE kx;clear kx;obtain⟨G1,H1⟩:=Mw I' (θ2 G0 H0);have zv:=I'.size;rcases hj with ⟨rfl,hf⟩|⟨k,c,rfl,hk,hf⟩
   ·have NY:X=xs:=by rw[JK.out];simp[Cj,hf]
    subst NY;replace hf:=ag hf;go_wp2;go_ret;exact⟨_,rfl,H1.below ρE,(JG.trans (I'.mono zw)).trans ρE⟩
   ·have NY:X=(xs++[i])++Cj p L c.par:=by rw[JK.out];simp[Cj,hf]
    have hnn:k<n:=by have:=(List.getElem?_eq_some_iff.1 hk).1;omega
    have JM:(k:Int)<(n:Int):=ρa;obtain⟨g0,off,rfl,hg,RA⟩:=G1.at hk;have b0:v1.cell? ⟨g0,off+k*14+1,none⟩=some (ι ε c.par):=RA 1 _ rfl;change Hid _ at hf hk NY;have JE:KO (λ_=>False) w v1:=KO.of_below (JG.trans (I'.mono zw));have Oc:g0<v1:=ρa;have H2:=H1;have G2:=G1;have b2:=b0;clear H1 G1;go_upto_region 7 with (fail);go_upto_region 8 with (refine aw Tryz.underlying45 cD rfl (λ_=>rfl) ρI ρf ρf rfl (.tmp 16) (.tmp 18) rfl w (ζ ob q oe) xs i v1 #[ι ε i] rfl ρs ρs (H2.below ρE) ρB ρa ρJ ?_;intro o4 v4 H4 kx;replace kx:=kx.of_alloc;have G4:=G2.ko kx (λy hy=>af.notown H2 ρa);have JJ:KO (λ_=>False) w v4:=JE.trans kx τ5;have VF:=JJ.size);have b4:v4.cell? ⟨g0,off+k*14+1,none⟩=some (ι ε c.par):=G4.rng hk.out 1 _ rfl;clear b0 b2;go_wp2;go_roundw;case rel=>exact⟨q+1,c.par,xs++[i],by go_num,by omega,rfl,by rw[NY.out,show 70 - (q+1)=p by have:=hp.out;omega],by rw[ZL,RO.out];rfl,H4.below ρE,G4.below ρE,JJ.toBelow.trans ρE⟩
    case measure=>simp[intOf] at*;omega
theorem nt (v:ϗ)(L:List CD)(id:Int)(w:ϖ)(B:Nat)(G:aS 14 eI w B v L)(hl:L.length<=1000):Calls Ψ 98 #[v,ι ε id] w λe w'=>∃u,e=ϰ u/\HI w' w u ((List.filter (λc:CD=>c.par==id) L).map CD.id)/\Below w w w':=by
 obtain⟨oa,oc,rfl,-⟩:=G.slice;refine δf ?_;clear G hl;intro n hn G hl zB;go_in;go_wp2_with fail;go_loopw [5,10] (λo k wr=>∃(a b:List CD),k=ι ε (a.length:Nat)/\L=a++b/\HI wr w o ((List.filter (λc:CD=>c.par==id) a).map CD.id)/\aS 14 eI wr B (ζ oa n oc) L/\KO (λ_=>False) w wr) (λ_ k _=>n - (intOf k).toNat);case atStart=>exact⟨[],L,rfl,rfl,af.nil _ _,G.below ρE,ρK⟩
 case round=>
  obtain⟨a,b,rfl,JK,H0,G0,JG⟩:=hrel;refine δa ?_;intro zw JO q hq;obtain⟨ys,Ke⟩:=Nq ((List.filter (λc:CD=>c.par==id) a).map CD.id);have QB:ys.length<=1000:=by rw[<- Ke];have:=ZH (λc:CD=>c.par==id) a;simp at*;omega
  rw[Ke] at H0;obtain⟨ob,oe,rfl⟩:=af.slice H0;rw[hq] at JO ⊢;cases b with
  | nil=>
   refine η4 ?_;intro JM hd;have KT:L=a:=ρL;have YE:((List.filter (λc:CD=>c.par==id) L).map CD.id)=ys:=by rw[KT];exact Ke
   change Hid _ at JO JK Ke hq YE KT;go_wp2;go_ret;exact⟨_,rfl,by rw[YE.out];exact H0.below ρE,JG.toBelow.trans ρE⟩
  | cons c r=>
   refine δD ?_;intro JM hd Kd;have My:q<n:=ρa;obtain⟨g0,off,rfl,hg,RA⟩:=G0.at Kd;have Oc:g0<wr:=ρa;have Le:c ∈ L:=ρP;change Hid _ at JO hq JK Kd hn Ke;go_upto_region 4 with (fail);go_upto_region 5 with (refine Go.wpList_load_mid rfl 43 _ rfl g0 (off+q*14) rfl (eI c) _ RA Tryz.underlying43 rfl ρh ?_;try simp only[eI]);refine Jw (θ3 JG H0 G0) (λv=>ah v wr (fd c) 43) ρB ?_;rintro v1 X1 ⟨I',H1,G1⟩;replace cX:=X1.cell;replace fX:=X1.frozen;replace zX:=X1.size;have D1:∀z,(λc:CD=>c.par==id) c=z->(c.par==id)=z:=λz h=>h;obtain⟨z,hz⟩:=Nq ((λc:CD=>c.par==id) c);cases z
   ·have d1:=D1 _ hz;have hy2:((List.filter (λc:CD=>c.par==id) (a++[c])).map CD.id)=ys:=by rw[List.filter_append,jX (p:=(λc:CD=>c.par==id)) hz,ZA];exact Ke.out
    change Hid _ at hz hy2;clear D1;go_wp2;go_roundw;case rel=>exact⟨a++[c],r,by rw[ZL,hq.out];go_num,by rw[JK.out];simp,by rw[hy2.out];exact af.below H1 ρE,G1.below ρE,I'.step0 ρE⟩
    case measure=>exact ξc
   ·have d1:=D1 _ hz;have hy2:((List.filter (λc:CD=>c.par==id) (a++[c])).map CD.id)=ys++[c.id]:=by rw[List.filter_append,i9 (p:=(λc:CD=>c.par==id)) hz];rw[<- Ke.out];all_goals (first|rfl|exact List.map_append|simp)
    change Hid _ at hz hy2;clear D1;go_wp2_with (refine aw Tryz.underlying45 cD rfl (λ_=>rfl) ρI ρf ρf rfl (.tmp 18) (.tmp 21) rfl w (ζ ob ys.length oe) ys c.id v1 #[ι ε c.id] rfl ρs ρs (H1.below ρE) ρB ρa ρJ ?_;intro o6 v6 H6 kx;replace kx:=kx.of_alloc;have G6:=G1.ko kx (λy hy=>af.notown H1 ρa);have X6:=X1.ko kx (λh=>af.ne_blk H1 X1 ρf h);have JT:KO (λ_=>False) w v6:=I'.trans kx τ6;have zk6:=JT.size;replace cX:=X6.cell;replace fX:=X6.frozen;replace zX:=X6.size);exact ηe
theorem Ec (v:ϗ)(L:List CD)(Ng:∀c ∈ L,CN c)(w:ϖ)(B:Nat)(G:aS 14 eI w B v L)(hl:L.length<=1000):Calls Ψ 47 #[v] w λe w'=>∃u,e=ϰ u/\af 41 3 fu w' w u (List.filter (λc:CD=>de (kd c.r0 c.r1 c.r2)) L)/\Below w w w':=by
 obtain⟨oa,oc,rfl,-⟩:=G.slice;refine δf ?_;clear G hl;intro n hn G hl zB;go_in;go_wp2_with fail;go_loopw [3,8] (λo k wr=>∃(a b:List CD),k=ι ε (a.length:Nat)/\L=a++b/\af 41 3 fu wr w o (List.filter (λc:CD=>de (kd c.r0 c.r1 c.r2)) a)/\aS 14 eI wr B (ζ oa n oc) L/\KO (λ_=>False) w wr) (λ_ k _=>n - (intOf k).toNat);case atStart=>exact⟨[],L,rfl,rfl,af.nil _ _,G.below ρE,ρK⟩
 case round=>
  obtain⟨a,b,rfl,JK,H0,G0,JG⟩:=hrel;refine δa ?_;intro zw JO q hq;obtain⟨ys,Ke⟩:=Nq (List.filter (λc:CD=>de (kd c.r0 c.r1 c.r2)) a);have QB:ys.length<=1000:=by rw[<- Ke];have:=ZH (λc:CD=>de (kd c.r0 c.r1 c.r2)) a;simp at*;omega
  rw[Ke] at H0;obtain⟨ob,oe,rfl⟩:=af.slice H0;rw[hq] at JO ⊢;cases b with
  | nil=>
   refine η4 ?_;intro JM hd;have KT:L=a:=ρL;have YE:(List.filter (λc:CD=>de (kd c.r0 c.r1 c.r2)) L)=ys:=by rw[KT];exact Ke
   change Hid _ at JO JK Ke hq YE KT;go_wp2;go_ret;exact⟨_,rfl,by rw[YE.out];exact af.below H0 ρE,JG.toBelow.trans ρE⟩
  | cons c r=>
   refine δD ?_;intro JM hd Kd;have My:q<n:=ρa;obtain⟨g0,off,rfl,hg,RA⟩:=G0.at Kd;have Oc:g0<wr:=ρa;have Le:c ∈ L:=ρP;change Hid _ at JO hq JK Kd hn Ke;go_upto_region 4 with (fail);go_upto_region 5 with (refine Go.wpList_load_mid rfl 43 _ rfl g0 (off+q*14) rfl (eI c) _ RA Tryz.underlying43 rfl ρh ?_;try simp only[eI]);refine Jw (θ3 JG H0 G0) (λv=>ah v wr (fd c) 43) ρB ?_;rintro v1 X1 ⟨I',H1,G1⟩;replace cX:=X1.cell;replace fX:=X1.frozen;replace zX:=X1.size;have KR:=Ng c Le;obtain⟨kv,LQ⟩:=Nq (kd c.r0 c.r1 c.r2);have D1:∀z,(λc:CD=>de (kd c.r0 c.r1 c.r2)) c=z->decide (1<kv)=z:=λz h=>by rw[<- LQ];exact h
   change Hid _ at LQ D1;go_wp2_with fail;refine Zc (θ4 I' H1 G1 X1) ?_;rintro v2 ⟨JE,H2,G2,X2⟩;replace cX:=X2.cell;replace fX:=X2.frozen;replace zX:=X2.size;refine(bM c.r0 c.r1 c.r2 kv v2 KR.1.1 KR.1.2.1 KR.1.2.2 LQ.out).mono ?_;rintro e v3 ⟨rfl,kx⟩;obtain⟨H3,G3,X3,JI⟩:=Mw kx (θ4 H2 G2 X2 JE);replace cX:=X3.cell;replace fX:=X3.frozen;replace zX:=X3.size;clear kx;replace D1:=D1.out;obtain⟨z,hz⟩:=Nq ((λc:CD=>de (kd c.r0 c.r1 c.r2)) c);cases z
   ·have d1:=D1 _ hz;have hy2:(List.filter (λc:CD=>de (kd c.r0 c.r1 c.r2)) (a++[c]))=ys:=by rw[List.filter_append,jX (p:=(λc:CD=>de (kd c.r0 c.r1 c.r2))) hz,ZA];exact Ke.out
    change Hid _ at hz hy2;clear D1;go_wp2;go_roundw;case rel=>exact⟨a++[c],r,by rw[ZL,hq.out];go_num,by rw[JK.out];simp,by rw[hy2.out];exact af.below H3 ρE,G3.below ρE,JI.step0 ρE⟩
    case measure=>exact ξc
   ·have d1:=D1 _ hz;have hy2:(List.filter (λc:CD=>de (kd c.r0 c.r1 c.r2)) (a++[c]))=ys++[c]:=by rw[List.filter_append,i9 (p:=(λc:CD=>de (kd c.r0 c.r1 c.r2))) hz];rw[<- Ke.out];all_goals (first|rfl|exact List.map_append|simp)
    change Hid _ at hz hy2;clear D1;go_wp2_with (refine aw Tryz.underlying115 lJ rfl (λ_=>rfl) τF ρf ρf rfl (.tmp 16) (.tmp 19) rfl w (ζ ob ys.length oe) ys c v3 (aJ c.r0 c.r1 c.r2) rfl ρs ρs (H3.below ρE) ρB ρa ρJ ?_;intro o6 v6 H6 kx;replace kx:=kx.of_alloc;have G6:=G3.ko kx (λy hy=>af.notown H3 ρa);have X6:=X3.ko kx (λh=>af.ne_blk H3 X3 ρf h);have JT:KO (λ_=>False) w v6:=JI.trans kx (by intro y hy h;exact az h (af.notown H3 hy));have zk6:=JT.size;replace cX:=X6.cell;replace fX:=X6.frozen;replace zX:=X6.size);exact ηe
def bS (x:CD):Bool->List CD->List CD
 | d,[]=>if d then [] else [x]
 | d,c::r=>(if d=false/\x.id<=c.id then [x] else [])++(if c.id=x.id then [] else [c])++bS x (d || decide (x.id<=c.id)) r
theorem F4 (v:ϗ)(L:List CD)(x:CD)(w:ϖ)(B:Nat)(G:aS 14 eI w B v L)(hl:L.length<=1000):Calls Ψ 97 #[v,φ #[ι ε x.id,ι ε x.par,β x.lf,x.r0,x.r1,x.r2,x.l0,x.l1,x.l2,x.u0,x.u1,x.u2,ι ε x.pk,ι ε x.by_]] w λe w'=>∃u,e=ϰ u/\af 43 14 eI w' w u (bS x false L)/\Below w w w':=by
 obtain⟨oa,oc,rfl,-⟩:=G.slice;refine δf ?_;clear G hl;intro n hn G hl zB;obtain⟨Y,hY⟩:=Nq (bS x false L);rw[hY];go_in;go_wp2_with fail;go_loopw [5,6,11] (λo d k wr=>∃(a b:List CD) (z:Bool) (ys:List CD),k=ι ε (a.length:Nat)/\d=β z/\L=a++b/\Y=ys++bS x z b/\ys.length<=2*a.length/\af 43 14 eI wr (w+1) o ys/\ah wr w #[ι ε x.id,ι ε x.par,β x.lf,x.r0,x.r1,x.r2,x.l0,x.l1,x.l2,x.u0,x.u1,x.u2,ι ε x.pk,ι ε x.by_] 43/\aS 14 eI wr B (ζ oa n oc) L/\KO (λ_=>False) w wr) (λ_ _ k _=>n - (intOf k).toNat);case atStart=>exact⟨[],L,false,[],rfl,rfl,rfl,hY.symm,by simp,af.nil _ _,ρB,G.below ρE,ρK⟩
 case round=>
  obtain⟨a,b,z,ys,rfl,rfl,JK,WY,QB,H0,C0,G0,JG⟩:=hrel;refine δa ?_;intro zw JO q hq;have XL:=C0.size;obtain⟨ob,oe,rfl⟩:=af.slice H0;have cC:=C0.cell;have fC:=C0.frozen;replace hY:=ag hY;rw[hq] at JO QB ⊢;have YF:ys.length<=2000:=ρa;cases b with
  | nil=>
   refine η4 ?_;intro JM hd;change Hid _ at JO JK hq;cases z
   ·have hy2:Y=ys++[x]:=by rw[WY];rfl
    subst hy2;replace WY:=ag WY;go_wp2_with (refine aw Tryz.underlying27 dA rfl (λ_=>rfl) gF ρf ρf rfl (.tmp 40) (.tmp 42) rfl (w+1) (ζ ob ys.length oe) ys x wr #[ι ε x.id,ι ε x.par,β x.lf,x.r0,x.r1,x.r2,x.l0,x.l1,x.l2,x.u0,x.u1,x.u2,ι ε x.pk,ι ε x.by_] rfl ρs ρs (H0.below ρE) ρB ρa ρJ ?_;intro o4 v4 H4 kx;replace kx:=kx.of_alloc;have C4:=C0.ko kx (af.notown H0 ρa);have JJ:KO (λ_=>False) w v4:=JG.trans kx (by intro y hy h;exact az h (af.notown H0 ρa));have VF:=JJ.size;replace cC:=C4.cell;replace fC:=C4.frozen;replace zC:=C4.size);go_ret;exact⟨_,rfl,(af.below H4 ρE).base_le ρa,JJ.toBelow.trans ρE⟩
   ·have hy2:Y=ys:=by rw[WY];exact ZA _
    subst hy2;replace WY:=ag WY;go_wp2;go_ret;exact⟨_,rfl,(af.below H0 ρE).base_le ρa,JG.toBelow.trans ρE⟩
  | cons c r=>
   refine δD ?_;intro JM hd Kd;have My:q<n:=ρa;obtain⟨g0,off,rfl,hg,RA⟩:=G0.at Kd;have Oc:g0<wr:=ρa;change Hid _ at JO hq JK Kd hn;have Tm:=WY;replace WY:=ag WY;have ncx:wr.heap.size≠w:=ρa;go_upto_region 5 with (fail);go_upto_region 6 with (refine Go.wpList_load_mid rfl 43 _ rfl g0 (off+q*14) rfl (eI c) _ RA Tryz.underlying43 rfl ρh ?_;try simp only[eI]);refine Jw (θ4 JG H0 C0 G0) (λv=>ah v wr #[ι ε c.id,ι ε c.par,β c.lf,c.r0,c.r1,c.r2,c.l0,c.l1,c.l2,c.u0,c.u1,c.u2,ι ε c.pk,ι ε c.by_] 43) ρB ?_;rintro v1 X1 ⟨I',H1,C1,G1⟩;replace cC:=C1.cell;replace fC:=C1.frozen;replace zC:=C1.size;replace cX:=X1.cell;replace fX:=X1.frozen;replace zX:=X1.size;cases z
   ·by_cases c1:x.id<=c.id
    ·by_cases c2:c.id=x.id
     ·have d1:=ZT c1;have d2:(c.id !=x.id)=false:=by simp[c2]
      have hy2:Y=(ys++[x])++bS x true r:=τq;clear Tm;replace hy2:=ag hy2;go_wp2_with (refine aw Tryz.underlying27 dA rfl (λ_=>rfl) gF ρf ρf rfl (.tmp 24) (.tmp 26) rfl (w+1) (ζ ob ys.length oe) ys x v1 #[ι ε x.id,ι ε x.par,β x.lf,x.r0,x.r1,x.r2,x.l0,x.l1,x.l2,x.u0,x.u1,x.u2,ι ε x.pk,ι ε x.by_] rfl ρs ρs (H1.below ρE) ρB ρa ρJ ?_;intro o4 v4 H4 kx;replace kx:=kx.of_alloc;have C4:=C1.ko kx (af.notown H1 ρa);have G4:=G1.ko kx (λy hy=>af.notown H1 ρa);have X4:=X1.ko kx (λh=>az (af.own_ge H0 _ h.symm).2 ρa);have JJ:KO (λ_=>False) w v4:=I'.trans kx σt;have VF:=JJ.size;replace cC:=C4.cell;replace fC:=C4.frozen;replace zC:=C4.size;replace cX:=X4.cell;replace fX:=X4.frozen;replace zX:=X4.size);go_roundw;case rel=>exact⟨a++[c],r,true,ys++[x],by rw[ZL,hq.out];go_num,rfl,by rw[JK.out];simp,hy2.out,by simp;rw[hq.out];omega,af.below H4 ρE,ρB,G4.below ρE,JJ.step0 ρE⟩
      case measure=>exact ξc
     ·have d1:=ZT c1;have d2:(c.id !=x.id)=true:=by simp[c2]
      have hy2:Y=(ys++[x]++[c])++bS x true r:=τq;clear Tm;replace hy2:=ag hy2;go_upto_region 9 with (refine aw Tryz.underlying27 dA rfl (λ_=>rfl) gF ρf ρf rfl (.tmp 24) (.tmp 26) rfl (w+1) (ζ ob ys.length oe) ys x v1 #[ι ε x.id,ι ε x.par,β x.lf,x.r0,x.r1,x.r2,x.l0,x.l1,x.l2,x.u0,x.u1,x.u2,ι ε x.pk,ι ε x.by_] rfl ρs ρs (H1.below ρE) ρB ρa ρJ ?_;intro o4 v4 H4 kx;replace kx:=kx.of_alloc;have C4:=C1.ko kx (af.notown H1 ρa);have G4:=G1.ko kx (λy hy=>af.notown H1 ρa);have X4:=X1.ko kx (λh=>az (af.own_ge H0 _ h.symm).2 ρa);have JJ:KO (λ_=>False) w v4:=I'.trans kx σt;have VF:=JJ.size;replace cC:=C4.cell;replace fC:=C4.frozen;replace zC:=C4.size;replace cX:=X4.cell;replace fX:=X4.frozen;replace zX:=X4.size);obtain⟨ob4,oe4,rfl⟩:=af.slice H4;obtain⟨m4,hm4⟩:=Nq ((ys++[x]).length);obtain⟨y4,hy4⟩:=Nq (ys++[x]);have hyn4:y4.length<=2001:=by rw[<- hy4,ZL];simp;omega
      have hyn5:y4.length<=ys.length+1:=by rw[<- hy4,ZL];simp
      rw[hy4] at H4 hm4;rw[hy4];subst hm4;replace hy4:=ag hy4;go_wp2_with (refine aw Tryz.underlying27 dA rfl (λ_=>rfl) gF ρf ρf rfl (.tmp 33) (.tmp 35) rfl (w+1) (ζ ob4 y4.length oe4) y4 c v4 #[ι ε c.id,ι ε c.par,β c.lf,c.r0,c.r1,c.r2,c.l0,c.l1,c.l2,c.u0,c.u1,c.u2,ι ε c.pk,ι ε c.by_] rfl ρs ρs (H4.below ρE) ρB ρa ρJ ?_;intro o5 v5 H5 kx;replace kx:=kx.of_alloc;have C5:=C4.ko kx (af.notown H4 ρa);have G5:=G4.ko kx (λy hy=>af.notown H4 ρa);have JP:KO (λ_=>False) w v5:=JJ.trans kx (by intro y hy h;exact az h (af.notown H4 ρa));have zk5:=JP.size;replace cC:=C5.cell;replace fC:=C5.frozen;replace zC:=C5.size);go_roundw;case rel=>exact⟨a++[c],r,true,y4++[c],by rw[ZL,hq.out];go_num,rfl,by rw[JK.out];simp,by rw[<- hy4.out];exact hy2.out,by simp;rw[hq.out];omega,af.below H5 ρE,ρB,G5.below ρE,JP.step0 ρE⟩
      case measure=>exact ξc
    ·by_cases c2:c.id=x.id
     ·exact az (Int.le_of_eq c2.symm) c1
     ·have d1:=ZF c1;have d2:(c.id !=x.id)=true:=by simp[c2]
      have hy2:Y=(ys++[c])++bS x false r:=τq;clear Tm;replace hy2:=ag hy2;go_wp2_with (refine aw Tryz.underlying27 dA rfl (λ_=>rfl) gF ρf ρf rfl (.tmp 33) (.tmp 35) rfl (w+1) (ζ ob ys.length oe) ys c v1 #[ι ε c.id,ι ε c.par,β c.lf,c.r0,c.r1,c.r2,c.l0,c.l1,c.l2,c.u0,c.u1,c.u2,ι ε c.pk,ι ε c.by_] rfl ρs ρs (H1.below ρE) ρB ρa ρJ ?_;intro o4 v4 H4 kx;replace kx:=kx.of_alloc;have C4:=C1.ko kx (af.notown H1 ρa);have G4:=G1.ko kx (λy hy=>af.notown H1 ρa);have X4:=X1.ko kx (λh=>az (af.own_ge H0 _ h.symm).2 ρa);have JJ:KO (λ_=>False) w v4:=I'.trans kx σt;have VF:=JJ.size;replace cC:=C4.cell;replace fC:=C4.frozen;replace zC:=C4.size;replace cX:=X4.cell;replace fX:=X4.frozen;replace zX:=X4.size);go_roundw;case rel=>exact⟨a++[c],r,false,ys++[c],by rw[ZL,hq.out];go_num,rfl,by rw[JK.out];simp,hy2.out,by simp;rw[hq.out];omega,af.below H4 ρE,ρB,G4.below ρE,JJ.step0 ρE⟩
      case measure=>exact ξc
   ·by_cases c1:x.id<=c.id
    ·by_cases c2:c.id=x.id
     ·have d1:=ZT c1;have d2:(c.id !=x.id)=false:=by simp[c2]
      have hy2:Y=(ys)++bS x true r:=τq;clear Tm;replace hy2:=ag hy2;go_wp2;go_roundw;case rel=>exact⟨a++[c],r,true,ys,by rw[ZL,hq.out];go_num,rfl,by rw[JK.out];simp,hy2.out,by simp;rw[hq.out];omega,af.below H1 ρE,ρB,G1.below ρE,I'.step0 ρE⟩
      case measure=>exact ξc
     ·have d1:=ZT c1;exact ξO
    ·by_cases c2:c.id=x.id
     ·exact az (Int.le_of_eq c2.symm) c1
     ·have d1:=ZF c1;exact ξO
theorem Im (v:ϗ)(L:List CD)(id:Int)(w:ϖ)(B:Nat)(G:aS 14 eI w B v L)(hl:L.length<=1000):Calls Ψ 65 #[v,ι ε id] w λe w'=>∃sa sn sc m,e=ϰ (φ #[ζ sa sn sc,ι ε m])/\(m=0->af 43 14 eI w' w (ζ sa sn sc) (List.filter (λc:CD=>c.id !=id) L)/\(∃d,fc L id=some d)/\∀a ∈ L,a.par≠id)/\Below w w w':=by
 obtain⟨oa,oc,rfl,-⟩:=G.slice;refine δf ?_;clear G hl;intro n hn G hl zB;go_in;go_wp2_with fail;refine Jc (θ2 (Ks (λ_=>False) w) G) (λv=>ah v w #[Kn,Kz] 112) ρB ?_;rintro v1 R1 ⟨I',G1⟩;have Rr:=R1.r;refine(nw _ L id v1 B G1 ρa).mono ?_;rintro e v2 ⟨i,rfl,hi,kx⟩;clear Rr;obtain⟨⟨G2,R2,JE⟩,Rr⟩:=Mx kx (θ3 G1 R1 I');clear kx;have zv2:=JE.size;rcases hi with ⟨rfl,hf⟩|⟨kk,d,rfl,hk,hf⟩
 ·replace hf:=ag hf;go_wp2_with fail;refine eD v2 (λx=>x=w.heap.size) (λv=>ah v w #[ζ oa n oc,ι ε 6] 112) ρB (λ_ kx=>kx) ?_;rintro v9 R9 k9;have KS:=R9.cell;refine ZO (v:=φ #[ζ oa n oc,ι ε 6]) κr rfl ?_;exact⟨_,_,_,6,rfl,λh=>az h ρf,JE.toBelow.trans (k9.below zv2 ρF)⟩
 ·change Hid _ at hk hf;go_wp2_with fail;refine Zc (θ3 JE G2 R2) ?_;rintro v3 ⟨JI,G3,R3⟩;refine(nt _ L id v3 B G3 ρa).mono ?_;rintro e v4 ⟨u,rfl,HK,kx⟩;clear Rr;obtain⟨⟨G4,R4,JJ⟩,Rr⟩:=Mx kx (θ3 G3 R3 JI);clear kx;obtain⟨zs,Wi⟩:=Nq ((List.filter (λc:CD=>c.par==id) L).map CD.id);rw[Wi] at HK;obtain⟨ub,uc,rfl⟩:=af.slice HK;obtain⟨m,hm⟩:=Nq zs.length;rw[hm];have zv4:=JJ.size;have zR4:=R4.size;by_cases cm:0<m
  ·have d2:=dt (0<(m:Int));have VQ:=ZT cm;change Hid _ at Wi hm;clear HK;go_wp2_with fail;refine eD v4 (λx=>x=w.heap.size) (λv=>ah v w #[ζ oa n oc,ι ε 23] 112) ρB (λ_ kx=>kx) ?_;rintro v9 R9 k9;have KS:=R9.cell;refine ZO (v:=φ #[ζ oa n oc,ι ε 23]) κr rfl ?_;exact⟨_,_,_,23,rfl,λh=>az h ρf,JJ.toBelow.trans (k9.below zv4 ρF)⟩
  ·have d2:=df (0<(m:Int));have VQ:=ZF cm;have Ra:∀a ∈ L,a.par≠id:=by intro a ha e;have h9:a.id ∈ zs:=(by rw[<- Wi];exact List.mem_map.2 ⟨a,ZE.2 ⟨ha,beq_iff_eq.2 e⟩,rfl⟩);rw[List.length_eq_zero_iff.1 (show zs.length=0 by omega)] at h9;exact az h9 ρp
   replace Ra:=ag Ra;clear HK hm Wi;clear cm;go_wp2_with fail;go_loopw [5,23] (λo k wr=>∃(a b:List CD),k=ι ε (a.length:Nat)/\L=a++b/\af 43 14 eI wr v4 o (List.filter (λc:CD=>c.id !=id) a)/\aS 14 eI wr B (ζ oa n oc) L/\ah wr w #[Kn,Kz] 112/\KO (λ_=>False) v4 wr) (λ_ k _=>n - (intOf k).toNat);case atStart=>exact⟨[],L,rfl,rfl,af.nil _ _,G4.below ρE,ρB,ρK⟩
   case round=>
    obtain⟨a,b,rfl,JK,H0,G0,R0,JG⟩:=hrel;refine δa ?_;intro zw JO q hq;obtain⟨ys,Ke⟩:=Nq (List.filter (λc:CD=>c.id !=id) a);have QB:ys.length<=1000:=by rw[<- Ke];have:=ZH (λc:CD=>c.id !=id) a;simp at*;omega
    rw[Ke] at H0;obtain⟨ob,oe,rfl⟩:=af.slice H0;rw[hq] at JO ⊢;have Ss:=R0.r;cases b with
    | nil=>
     refine η4 ?_;intro JM hd;have KT:L=a:=ρL;have YE:(List.filter (λc:CD=>c.id !=id) L)=ys:=by rw[KT];exact Ke
     change Hid _ at JO JK Ke hq YE KT;go_wp2_with fail;refine eD wr (λx=>x=w.heap.size) (λv=>ah v w #[ζ ob ys.length oe,Kz] 112) ρB (λ_ kx=>kx) ?_;rintro v9 R9 k9;have KS:=R9.cell;refine ZO (v:=φ #[ζ ob ys.length oe,Kz]) κr rfl ?_;exact⟨_,_,_,0,rfl,λ_=>⟨by rw[YE.out];exact(af.ko H0 k9 (λx hx _ e=>by omega)).base_le ρa,⟨d,hf.out⟩,Ra.out⟩,(JJ.toBelow.trans (JG.toBelow.mono zv4)).trans (k9.below ρa ρF)⟩
    | cons c r=>
     refine δD ?_;intro JM hd Kd;have My:q<n:=ρa;obtain⟨g0,off,rfl,hg,RA⟩:=G0.at Kd;have Oc:g0<wr:=ρa;have Le:c ∈ L:=ρP;change Hid _ at JO hq JK Kd hn Ke;go_upto_region 8 with (fail);go_upto_region 9 with (refine Go.wpList_load_mid rfl 43 _ rfl g0 (off+q*14) rfl (eI c) _ RA Tryz.underlying43 rfl ρh ?_;try simp only[eI]);refine jf (θ4 JG H0 G0 R0) (λv=>ah v wr (fd c) 43) ρB ?_;clear Rr Ss;rintro v1 X1 ⟨I',H1,G1,R1⟩ Rr;replace cX:=X1.cell;replace fX:=X1.frozen;replace zX:=X1.size;have D1:∀z,(λc:CD=>c.id !=id) c=z->(c.id !=id)=z:=λz h=>h;obtain⟨z,hz⟩:=Nq ((λc:CD=>c.id !=id) c);cases z
     ·have d1:=D1 _ hz;have hy2:(List.filter (λc:CD=>c.id !=id) (a++[c]))=ys:=by rw[List.filter_append,jX (p:=(λc:CD=>c.id !=id)) hz,ZA];exact Ke.out
      change Hid _ at hz hy2;clear D1;go_wp2;go_roundw;case rel=>exact⟨a++[c],r,by rw[ZL,hq.out];go_num,by rw[JK.out];simp,by rw[hy2.out];exact af.below H1 ρE,G1.below ρE,ρB,I'.step0 ρE⟩
      case measure=>exact ξc
     ·have d1:=D1 _ hz;have hy2:(List.filter (λc:CD=>c.id !=id) (a++[c]))=ys++[c]:=by rw[List.filter_append,i9 (p:=(λc:CD=>c.id !=id)) hz];rw[<- Ke.out];all_goals (first|rfl|exact List.map_append|simp)
      change Hid _ at hz hy2;clear D1;go_wp2_with (refine aw Tryz.underlying27 dA rfl (λ_=>rfl) gF ρf ρf rfl (.tmp 31) (.tmp 33) rfl v4 (ζ ob ys.length oe) ys c v1 (fd c) rfl ρs ρs (H1.below ρE) ρB ρa ρJ ?_;intro o6 v6 H6 kx;replace kx:=kx.of_alloc;have G6:=G1.ko kx (λy hy=>af.notown H1 ρa);have R6:=R1.ko kx (af.notown H1 ρa);have X6:=X1.ko kx (λh=>az (af.own_ge H0 _ h.symm).2 ρa);have JT:KO (λ_=>False) v4 v6:=I'.trans kx τ6;have zk6:=JT.size;replace rR:=R6.r;replace cX:=X6.cell;replace fX:=X6.frozen;replace zX:=X6.size);go_roundw;case rel=>exact⟨a++[c],r,by rw[ZL,hq.out];go_num,by rw[JK.out];simp,by rw[hy2.out];exact af.below H6 ρE,G6.below ρE,ρB,JT.step0 ρE⟩
      case measure=>exact ξc
def WC (x:CD):Int:=wr x.id x.par x.lf (kd x.r0 x.r1 x.r2) (kd x.l0 x.l1 x.l2) (kd x.u0 x.u1 x.u2) x.pk x.by_
def Ct (x:CD)(L:List CD):Prop:=x.par=0\/∃c,fc L x.par=some c/\c.lf=false
def Cq (x:CD)(L:List CD):Prop:=WC x=0/\fc L x.id=none/\L.length≠64/\Ct x L/\(eV x=true->kJ L x.par=true)
theorem If (v:ϗ)(L:List CD)(x:CD)(hx:CN x)(hq:∀c ∈ L,CN c)(w:ϖ)(B:Nat)(G:aS 14 eI w B v L)(hl:L.length<=1000):Calls Ψ 64 #[v,φ (fd x)] w λe w'=>∃sa sn sc m,e=ϰ (φ #[ζ sa sn sc,ι ε m])/\(m=0->af 43 14 eI w' w (ζ sa sn sc) (bS x false L)/\Cq x L)/\Below w w w':=by
 obtain⟨oa,oc,rfl,-⟩:=G.slice;refine δf ?_;clear G hl;intro n hn G hl zB;obtain⟨cw,Yn⟩:=Nq (WC x);replace Yn:=ag Yn;go_in;go_wp2_with fail;refine δH ?_;intro v1 C1 R1 I' G1 v2 G2 C2 R2 JE Rr;by_cases c1:cw=0
 rotate_left
 ·have d1:(cw !=0)=true:=by simpa using c1
  go_wp2_with fail;refine eD v2 (λx=>x=(w.heap.size+1)) (λv=>ah v ((w+1)) #[ζ oa n oc,ι ε cw] 112) ρB (λ_ kx=>kx) ?_;rintro v9 R9 k9;have KS:=R9.cell;refine ZO (v:=φ #[ζ oa n oc,ι ε cw]) σx rfl ?_;exact⟨_,_,_,cw,rfl,λh=>az h c1,JE.toBelow.trans (k9.below JE.size ρF)⟩
 subst c1;go_wp2_with fail;refine Zc (θ4 JE G2 C2 R2) ?_;rintro v3 ⟨JI,G3,C3,R3⟩;refine(nw _ L x.id v3 B G3 ρa).mono ?_;rintro e v4 ⟨i,rfl,hi,kx⟩;clear Rr;obtain⟨⟨G4,C4,R4,JJ⟩,Rr⟩:=Mx kx (θ4 G3 C3 R3 JI);clear kx;rcases hi with ⟨rfl,hf⟩|⟨kk,d,rfl,hk,hf⟩
 rotate_left
 ·go_wp2_with fail;refine eD v4 (λx=>x=(w.heap.size+1)) (λv=>ah v ((w+1)) #[ζ oa n oc,ι ε 8] 112) ρB (λ_ kx=>kx) ?_;rintro v9 R9 k9;have KS:=R9.cell;refine ZO (v:=φ #[ζ oa n oc,ι ε 8]) σx rfl ?_;exact⟨_,_,_,8,rfl,λh=>az h ρf,JJ.toBelow.trans (k9.below JJ.size ρF)⟩
 by_cases c2:n=64
 ·have d2:((n:Int)==64)=true:=by rw[c2];rfl
  clear c2;go_wp2_with fail;refine eD v4 (λx=>x=(w.heap.size+1)) (λv=>ah v ((w+1)) #[ζ oa n oc,ι ε 5] 112) ρB (λ_ kx=>kx) ?_;rintro v9 R9 k9;have KS:=R9.cell;refine ZO (v:=φ #[ζ oa n oc,ι ε 5]) σx rfl ?_;exact⟨_,_,_,5,rfl,λh=>az h ρf,JJ.toBelow.trans (k9.below JJ.size ρF)⟩
 have d2:((n:Int)==64)=false:=ZN.2 ρa;change Hid _ at hf c2;go_wp2_with fail;refine Zc (θ4 JJ G4 C4 R4) ?_;rintro v5 ⟨JP,G5,C5,R5⟩;refine(nw _ L x.par v5 B G5 ρa).mono ?_;rintro e v6 ⟨j,rfl,hj,kx⟩;clear Rr;obtain⟨⟨G6,C6,R6,JT⟩,Rr⟩:=Mx kx (θ4 G5 C5 R5 JP);clear kx;have b0:=C6.cell 1;simp at b0;go_upto_region 9 with fail;go_cut [43] from 30 to 42 (λt wx=>∃z:Bool,t=β z/\(z=false->Ct x L)/\wx=v6);case first=>
  by_cases c3:x.par=0
  ·have d3:(x.par !=0)=false:=by simp[c3]
   clear hj;go_wp2;go_meet;exact⟨_,rfl,λ_=>.inl c3,rfl⟩
  ·have d3:(x.par !=0)=true:=by simp[c3]
   rcases hj with ⟨rfl,Qv⟩|⟨k,c,rfl,hk,Qv⟩
   ·replace Qv:=ag Qv;go_wp2;go_meet;exact⟨_,rfl,λh=>az h ρf,rfl⟩
   ·have hnn:k<n:=by have:=(List.getElem?_eq_some_iff.1 hk).1;omega
    have JM:(k:Int)<(n:Int):=ρa;obtain⟨g0,off,rfl,hg,RA⟩:=G6.at hk;have b2:v6.cell? ⟨g0,off+k*14+2,none⟩=some (β c.lf):=RA 2 _ rfl;obtain⟨z,hz⟩:=Nq c.lf;rw[hz] at b2;change Hid _ at hz hk Qv;go_wp2;go_meet;exact⟨_,rfl,λh=>.inr ⟨c,Qv.out,by rw[hz.out];exact h⟩,rfl⟩
 case rest=>
  obtain⟨z,rfl,Kt,rfl⟩:=hcut;replace hj:=ag hj;cases z
  rotate_left
  ·go_wp2_with fail;refine eD wc (λx=>x=(w.heap.size+1)) (λv=>ah v ((w+1)) #[ζ oa n oc,ι ε 23] 112) ρB (λ_ kx=>kx) ?_;rintro v9 R9 k9;have KS:=R9.cell;refine ZO (v:=φ #[ζ oa n oc,ι ε 23]) σx rfl ?_;exact⟨_,_,_,23,rfl,λh=>az h ρf,JT.toBelow.trans (k9.below JT.size ρF)⟩
  replace Kt:=ag (Kt rfl);go_upto_region 11 with fail;go_cut [56] from 46 to 55 (λt wx=>∃y:Bool,t=β y/\(y=false->eV x=true->kJ L x.par=true)/\aS 14 eI wx B (ζ oa n oc) L/\ah wx w (fd x) 43/\ah wx (w+1) #[Kn,Kz] 112/\KO (λ_=>False) w wx);case first=>
   obtain⟨kv,LQ⟩:=Nq (kd x.l0 x.l1 x.l2);have Lx:eV x=de kv:=by rw[<- LQ];rfl
   obtain⟨sb,QZ⟩:=Nq (kJ L x.par);change Hid _ at LQ Lx QZ;go_wp2_with fail;refine Zc (θ4 JT G6 C6 R6) ?_;rintro v7 ⟨J7,G7,C7,R7⟩;refine(bM x.l0 x.l1 x.l2 kv v7 hx.2.1.1 hx.2.1.2.1 hx.2.1.2.2 LQ.out).mono ?_;rintro e v8 ⟨rfl,kx⟩;clear Rr;obtain⟨⟨G8,C8,R8,Ka⟩,Rr⟩:=Mx kx (θ4 G7 C7 R7 J7);clear kx;by_cases ck:1<kv
   rotate_left
   ·have d6:=ZF ck;go_wp2;go_meet;exact⟨_,rfl,λ_ h=>by rw[Lx.out] at h;have h2:1<kv:=of_decide_eq_true h;omega,G8.below ρE,ρB,ρB,Ka.step0 ρE⟩
   ·have d6:=ZT ck;go_wp2_with fail;refine Zc (θ4 Ka G8 C8 R8) ?_;rintro v9 ⟨Km,G9,C9,R9⟩;refine(oV _ L x.par hq v9 B G9 ρa).mono ?_;rintro e N0 ⟨rfl,kx⟩;clear Rr;obtain⟨⟨SO,VG,TR,Kg⟩,Rr⟩:=Mx kx (θ4 G9 C9 R9 Km);clear kx;rw[QZ.out];cases sb
    ·go_wp2;go_meet;exact⟨_,rfl,λh=>az h ρf,SO.below ρE,ρB,ρB,Kg.step0 ρE⟩
    ·go_wp2;go_meet;exact⟨_,rfl,λ_ _=>QZ.out,SO.below ρE,ρB,ρB,Kg.step0 ρE⟩
  case rest=>
   obtain⟨y,rfl,Qz,G8,C8,R8,Ka⟩:=hcut;replace Rr:=θ2 C8.r R8.r;cases y
   rotate_left
   ·go_wp2_with fail;refine eD wc (λx=>x=(w.heap.size+1)) (λv=>ah v ((w+1)) #[ζ oa n oc,ι ε 29] 112) ρB (λ_ kx=>kx) ?_;rintro v9 R9 k9;have KS:=R9.cell;refine ZO (v:=φ #[ζ oa n oc,ι ε 29]) σx rfl ?_;exact⟨_,_,_,29,rfl,λh=>az h ρf,Ka.toBelow.trans (k9.below Ka.size ρF)⟩
   replace Qz:=ag (Qz rfl);go_wp2_with fail;refine Zc (θ4 Ka G8 C8 R8) ?_;rintro v9 ⟨Km,G9,C9,R9⟩;refine(JB _ L x.par v9 B G9 ρa).mono ?_;rintro e N0 ⟨u,rfl,HU,kx⟩;clear Rr;obtain⟨⟨SO,VG,TR,Kg⟩,Rr⟩:=Mx kx (θ4 G9 C9 R9 Km);clear kx;obtain⟨us,hus⟩:=Nq (Cj 70 L x.par);rw[hus] at HU;obtain⟨ub,uc,rfl⟩:=af.slice HU;obtain⟨m,hm⟩:=Nq us.length;rw[hm];change Hid _ at hus hm;clear HU;by_cases c5:16<=m
   ·have d5:=ZT c5;have d5':=dt (16<=(m:Int));go_wp2_with fail;refine eD N0 (λx=>x=(w.heap.size+1)) (λv=>ah v ((w+1)) #[ζ oa n oc,ι ε 25] 112) ρB (λ_ kx=>kx) ?_;rintro v9 R9 k9;have KS:=R9.cell;refine ZO (v:=φ #[ζ oa n oc,ι ε 25]) σx rfl ?_;exact⟨_,_,_,25,rfl,λh=>az h ρf,Kg.toBelow.trans (k9.below Kg.size ρF)⟩
   have d5:=ZF c5;have d5':=df (16<=(m:Int));go_wp2_with fail;refine Zc (θ4 Kg SO VG TR) ?_;rintro LD ⟨KE,Sf,C11,N4⟩;refine(F4 _ L x LD B Sf ρa).mono ?_;rintro e Oe ⟨u,rfl,HP,kx⟩;clear Rr;obtain⟨⟨Qk,C12,Rp,Kl⟩,Rr⟩:=Mx kx (θ4 Sf C11 N4 KE);clear kx;have Vq:w.heap.size+1<LD:=N4.size;obtain⟨ps,LS⟩:=Nq (bS x false L);rw[LS] at HP;obtain⟨pb,pc,rfl⟩:=af.slice HP;obtain⟨y,hy⟩:∃y:Nat,ps.length=y:=⟨_,rfl⟩;rw[hy] at HP ⊢;change Hid _ at LS hy;go_wp2_with fail;refine eD Oe (λx=>x=(w.heap.size+1)) (λv=>ah v ((w+1)) #[ζ pb y pc,Kz] 112) ρB (λ_ kx=>kx) ?_;rintro v9 R9 k9;have KS:=R9.cell;refine ZO (v:=φ #[ζ pb y pc,Kz]) σx rfl ?_;exact⟨_,_,_,0,rfl,λ_=>⟨by rw[LS.out];exact(af.ko HP k9 (λx hx _ e=>by have:=Vq;omega)).base_le (by have:=Vq;omega),Yn.out,hf.out,λe=>c2.out (by rw[<- hn];exact e),Kt.out,Qz.out⟩,Kl.toBelow.trans (k9.below Kl.size ρF)⟩
theorem yx (n:Int)(w:ϖ)(hn:aq n):
  CB 37 #[n] w (nv (n*65536)):=by
 obtain⟨p,hp⟩:=Nq (n*65536);rw[hp];replace hp:=ag hp;unfold CB;go_in;go_wp2_with fail;refine Jc (Ks (λ_=>False) w) (λv=>ah v w f9 70) ρB ?_;rintro v1 R1 I';have Rr:=R1.r;refine(jD n 65536 p v1 hn ρa hp.out).mono ?_;rintro e v2 ⟨rfl,kx⟩;clear Rr;obtain⟨⟨R2,JE⟩,Rr⟩:=Mx kx (θ2 R1 I');clear kx;go_wp2_with fail;refine eD v2 (λx=>x=w.heap.size) (λv=>ah v w (bC p) 70) ρB (λ_ kx=>kx) ?_;rintro v9 R9 k9;have KS:=R9.cell;refine ZO (v:=nv p) (by simp[results,Tryz.results37,go_sem,KS]) rfl ?_;exact⟨rfl,JE.toBelow.trans (k9.below JE.size ρF)⟩
theorem Ed (a t:Int)(w:ϖ)(ha:0<=a/\a<=Mc)(ht:0<=t/\t<=65536):
  CB 135 #[nv a,ι ε t] w (nv (a*t)):=by
 obtain⟨p,hp⟩:=Nq (a*t);rw[hp];have hlo:lo a=a:=by unfold lo;omega
 have hhi:hi a=0:=by unfold hi;omega
 have hw:IntKind.u64.wrap t=t:=ZZ _ ⟨by omega,by omega⟩;have a128:ai a:=ρz;have hpb:0<=p/\p<=Mc*65536:=κq;have RT:ai p:=ρz;change Hid _ at hp hlo hhi;unfold CB;go_in;go_wp2_with fail;refine Jc (Ks (λ_=>False) w) (λv=>ah v w (bC a) 70/\ah v (w+1) f9 70) ⟨ρB,ρB⟩ ?_;rintro v1 ⟨C1,R1⟩ I';have Rr:=θ2 C1.r R1.r;refine(DY a a v1 hlo.out).mono ?_;rintro e v2 ⟨rfl,kx⟩;clear Rr;obtain⟨⟨C2,R2,JE⟩,Rr⟩:=Mx kx (θ3 C1 R1 I');clear kx;go_wp2_with fail;refine Zc (θ3 JE C2 R2) ?_;rintro v3 ⟨JI,C3,R3⟩;refine(jD a t p v3 ⟨ha.1,by omega⟩ ⟨ht.1,by omega⟩ hp.out).mono ?_;rintro e v4 ⟨rfl,kx⟩;clear Rr;obtain⟨⟨C4,R4,JJ⟩,Rr⟩:=Mx kx (θ3 C3 R3 JI);clear kx;go_wp2_with fail;refine pw (θ3 JJ C4 R4) (λv=>ah v v4 (bC p) 70) ρB ?_;clear Rr;rintro v5 X5 ⟨JP,C5,R5⟩ Rr;have Ss:=X5.r;refine((by have h:=FS a v5;rw[hhi.out] at h;exact h:CB 61 #[nv a] v5 Ky)).mono ?_;rintro e v6 ⟨rfl,kx⟩;clear Rr Ss;obtain⟨⟨C6,R6,X6,JT⟩,Rr⟩:=Mx kx (θ4 C5 R5 X5 JP);clear kx;go_wp2_with fail;refine Zc (θ4 JT C6 R6 X6) ?_;rintro v7 ⟨J7,C7,R7,X7⟩;refine(jD 0 t 0 v7 ρa ⟨ht.1,by omega⟩ (Int.zero_mul t)).mono ?_;rintro e v8 ⟨rfl,kx⟩;clear Rr;obtain⟨⟨C8,R8,X8,Ka⟩,Rr⟩:=Mx kx (θ4 C7 R7 X7 J7);clear kx;have h0:ai 0:=ρz;have hT:∀u,CB 63 #[Ky,Ky] u (nv 0):=λu=>by have h:=Iv 0 u h0;first|(rw[show hi 0=0 by decide,show lo 0=0 by decide] at h;exact h)|exact h
 go_upto_region 3 with (fail);refine jf (θ4 Ka C8 R8 X8) (λv=>ah v v8 (bC 0) 70) ρB ?_;clear Rr;rintro v9 Y9 ⟨Km,C9,R9,X9⟩ Rr;have Ss:=Y9.r;have q:=θ4 (ae C9) (ae R9) (ae X9) (ae Y9);refine Ws 5 (nY ?_)
 repeat (go_big_quiet_step ((first
   | (go_at_call 62;(with_reducible exact bZ (DY 0 0 _ rfl)))
   | (go_at_call 63;(with_reducible exact bZ (hT _)))
   | (go_at_call 59;(with_reducible exact bZ (kh p 0 p _ RT h0 (Int.add_zero p) RT))))))
 refine bB (θ5 C9 R9 X9 Y9 Km) ?_;clear Rr Ss;rintro N0 ⟨VG,TR,TV,Y10,Kg⟩ Rr;clear q C9 R9 X9 Y9;go_wp2_with fail;refine eD N0 (λx=>x=w.heap.size+1) (λv=>ah v (w+1) (bC p) 70) ρB (λ_ kx=>kx) ?_;rintro LD N4 k9;have cR11:=N4.cell;refine ZO (v:=nv p) (by simp[results,Tryz.results135,go_sem,cR11]) rfl ?_;exact⟨rfl,Kg.toBelow.trans (k9.below Kg.size ρF)⟩
theorem qL (a t n:Int)(w:ϖ)(ha:0<=a/\a<=Mc)(ht:0<=t/\t<=65536)(hn:aq n):
  CB 100 #[nv a,ι ε t,n] w (β (!decide (65536*n<a*t))):=by
 obtain⟨p,hp⟩:=Nq (a*t);obtain⟨q,hq⟩:=Nq (65536*n);rw[hp,hq];have hpb:0<=p/\p<=Mc*65536:=κq;have RT:ai p:=ρz;have q128:ai q:=ρz;obtain⟨c,hc⟩:=Nq (decide (q<p));rw[hc];have hT:∀u,CB 135 #[nv a,ι ε t] u (nv p):=λu=>by have h:=Ed a t u ha ht;rw[hp] at h;exact h
 change Hid _ at hp hq hc;cases c
 ·unfold CB;go_in;go_upto_region 1 with (fail);refine Jw (Ks (λ_=>False) w) (λv=>ah v w (bC a) 70) ρB ?_;rintro v1 C1 I';have Rr:=C1.r;have qC:=ae C1;refine Wq ?_
  repeat (go_big_quiet_step ((first
    | (go_at_call 38;(with_reducible exact bZ (jD 65536 n q _ ρa hn hq.out)))
    | (go_at_call 135;(with_reducible exact bZ (hT _)))
    | (go_at_call 23;(with_reducible exact bZ (jc q p false _ q128 RT hc.out))))))
  refine bB (θ2 C1 I') ?_;clear Rr;rintro v2 ⟨C2,JE⟩ Rr;clear qC C1;exact ηn
 ·unfold CB;go_in;go_upto_region 1 with (fail);refine Jw (Ks (λ_=>False) w) (λv=>ah v w (bC a) 70) ρB ?_;rintro v1 C1 I';have Rr:=C1.r;have qC:=ae C1;refine Wq ?_
  repeat (go_big_quiet_step ((first
    | (go_at_call 38;(with_reducible exact bZ (jD 65536 n q _ ρa hn hq.out)))
    | (go_at_call 135;(with_reducible exact bZ (hT _)))
    | (go_at_call 23;(with_reducible exact bZ (jc q p true _ q128 RT hc.out))))))
  refine bB (θ2 C1 I') ?_;clear Rr;rintro v2 ⟨C2,JE⟩ Rr;clear qC C1;exact ηn
theorem CG (v:ϗ)(L:List CD)(t:Int)(ht:1<=t/\t<=65536)(Ng:∀c ∈ L,CN c)(w:ϖ)(B:Nat)(G:aS 3 fu w B v L)(hl:L.length<=1000):Calls Ψ 67 #[ι ε t,v] w λe w'=>∃m,e=ϰ (ι ε m)/\((m=0->∀c ∈ L,kd c.r0 c.r1 c.r2≠0)/\(m≠0->∃c ∈ L,kd c.r0 c.r1 c.r2=0))/\Below w w w':=by
 obtain⟨oa,oc,rfl,-⟩:=G.slice;refine δf ?_;clear G hl;intro n hn G hl zB;have d1:=df (t<1);have d2:=df (65536<t);go_in;go_wp2_with fail;go_loopw [15] (λk wr=>∃(a b:List CD),k=ι ε (a.length:Nat)/\L=a++b/\(∀c ∈ a,kd c.r0 c.r1 c.r2≠0)/\aS 3 fu wr B (ζ oa n oc) L/\KO (λ_=>False) w wr) (λk _=>n - (intOf k).toNat);case atStart=>exact⟨[],L,rfl,rfl,by simp,G.below ρE,ρK⟩
 case round=>
  obtain⟨a,b,rfl,JK,MH,G0,JG⟩:=hrel;refine δa ?_;intro zw JO q hq;rw[hq] at JO ⊢;cases b with
  | nil=>refine η4 ?_;intro JM hd;have KT:L=a:=ρL;change Hid _ at JO JK hq KT MH;go_wp2;go_ret;exact⟨0,rfl,⟨λ_=>by rw[KT.out];exact MH.out,λh=>az rfl h⟩,JG.toBelow.trans ρE⟩
  | cons c r=>
   refine δD ?_;intro JM hd Kd;have My:q<n:=ρa;obtain⟨g0,off,rfl,hg,RA⟩:=G0.at Kd;have Oc:g0<wr:=ρa;have KR:=(Ng c ρP).1;obtain⟨kv,LQ⟩:=Nq (kd c.r0 c.r1 c.r2);change Hid _ at JO hq JK Kd hn LQ MH;go_upto_region 5 with (fail);go_upto_region 6 with (refine Go.wpList_load_mid rfl 41 _ rfl g0 (off+q*3) rfl (fu c) _ RA Tryz.underlying41 rfl ρh ?_;try simp only[fu]);refine Jw (θ2 JG G0) (λv=>ah v wr (aJ c.r0 c.r1 c.r2) 41) ρB ?_;rintro v1 X1 ⟨I',G1⟩;have Rr:=X1.r;go_wp2_with fail;refine Zc (θ3 I' G1 X1) ?_;rintro v2 ⟨JE,G2,X2⟩;refine(bM c.r0 c.r1 c.r2 kv v2 KR.1 KR.2.1 KR.2.2 LQ.out).mono ?_;rintro e v3 ⟨rfl,kx⟩;clear Rr;obtain⟨⟨G3,X3,JI⟩,Rr⟩:=Mx kx (θ3 G2 X2 JE);clear kx;by_cases c1:kv=0
   ·have d3:(kv==0)=true:=by rw[c1];rfl
    skip;go_wp2;go_ret;exact⟨21,rfl,⟨λh=>az h ρf,λ_=>⟨c,by rw[JK.out];simp,by rw[LQ.out];exact c1⟩⟩,JI.toBelow.trans ρE⟩
   ·have d3:(kv==0)=false:=ZN.2 c1;replace c1:=ag c1;go_wp2;go_roundw;case rel=>exact⟨a++[c],r,by rw[ZL,hq.out];go_num,by rw[JK.out];simp,λy hy=>(ZM.1 hy).elim (MH.out y) (λh=>by rw[ZS.1 h,LQ.out];exact c1.out),G3.below ρE,JI.step0 ρE⟩
    case measure=>exact ξc
theorem wq (v:ϗ)(L:List CD)(t:Int)(ht:aq t)(hc:∀c ∈ L,(0<=c.r0/\0<=c.r1/\0<=c.r2)/\0<=sk c.r0 c.r1 c.r2 t/\sk c.r0 c.r1 c.r2 t<=4503599627370496)(w:ϖ)(B:Nat)(G:aS 3 fu w B v L)(hl:L.length<=1000):
  CB 101 #[v,t] w (nv (L.map λc=>sk c.r0 c.r1 c.r2 t).sum):=by
 obtain⟨oa,oc,rfl,-⟩:=G.slice;refine δf ?_;clear G hl;intro n hn G hl zB;obtain⟨Y,hY⟩:=Nq ((L.map λc=>sk c.r0 c.r1 c.r2 t).sum);rw[hY];unfold CB;go_in;go_wp2_with fail;go_loopw [11] (λk wr=>∃(a b:List CD) (s:Int),k=ι ε (a.length:Nat)/\L=a++b/\(a.map λc=>sk c.r0 c.r1 c.r2 t).sum=s/\(0<=s/\s<=a.length*4503599627370496)/\ah wr (w+1) #[(aX (s)),(bV (s)),(ij (s)),(jg (s))] 70/\ah wr w f9 70/\aS 3 fu wr B (ζ oa n oc) L/\Below w w wr) (λk _=>n - (intOf k).toNat);case atStart=>exact⟨[],L,0,rfl,rfl,rfl,by simp,ρu,ρB,G.below ρE,ρE⟩
 case round=>
  obtain⟨a,b,s,rfl,JK,hs,QZ,O0,R0,G0,JG⟩:=hrel;refine δa ?_;intro zw JO q hq;rw[hq] at JO QZ ⊢;have LU:q<=n:=ρa;have VE:ai s:=ρz;have zO:=O0.size;have zR:=R0.size;have cO:=O0.cell;have fO:=O0.frozen;have cR:=R0.cell;have fR:=R0.frozen;cases b with
  | nil=>
   refine η4 ?_;intro JM hd;have Ke:Y=s:=by rw[<- hY,JK,ZA];exact hs
   subst Ke;change Hid _ at JO JK hq hs hY;go_wp2_with fail;refine δW ?_;rintro v9 R9 k9;have KS:=R9.cell;refine ZO (v:=nv Y) (by simp[results,Tryz.results101,go_sem,KS]) rfl ?_;exact⟨rfl,JG.trans (k9.below zw ρF)⟩
  | cons c r=>
   refine δD ?_;intro JM hd Kd;have My:q<n:=ρa;obtain⟨g0,off,rfl,hg,RA⟩:=G0.at Kd;have Oc:g0<wr:=ρa;have hS:=hc c ρP;obtain⟨KR,hS1,hS2⟩:=hS;obtain⟨S,hSe⟩:=Nq (sk c.r0 c.r1 c.r2 t);rw[hSe] at hS1 hS2;obtain⟨s2,Ki⟩:=Nq (s+S);have UG:ai S:=ρz;have QK:ai s2:=ρz;have MI:0<=s2/\s2<=(q+1)*4503599627370496:=ρa;replace JG:=KO.of_below (F:=λ_=>False) JG;have nXO:wr.heap.size≠w+1:=ρa;change Hid _ at JO hq JK Kd hn hSe Ki hs hY;go_upto_region 4 with (fail);go_upto_region 5 with (refine Go.wpList_load_mid rfl 41 _ rfl g0 (off+q*3) rfl (fu c) _ RA Tryz.underlying41 rfl ρh ?_;try simp only[fu]);refine Jw (θ4 JG G0 O0 R0) (λv=>ah v wr (aJ c.r0 c.r1 c.r2) 41) ρB ?_;rintro v1 X1 ⟨I',G1,O1,R1⟩;replace cO:=O1.cell;replace fO:=O1.frozen;replace zO:=O1.size;replace cR:=R1.cell;replace fR:=R1.frozen;replace zR:=R1.size;have Rr:=X1.r;have qO:=ae O1;have qR:=ae R1;have qX:=ae X1;refine Ws 5 (nY ?_)
   repeat (go_big_quiet_step ((first
     | (go_at_call 90;(with_reducible exact bZ (oX c.r0 c.r1 c.r2 t S _ KR.1 KR.2.1 KR.2.2 ht hSe.out)))
     | (go_at_call 59;(with_reducible exact bZ (kh s S s2 _ VE UG Ki.out QK))))))
   refine Zq (θ5 G1 O1 R1 X1 I') ?_;rintro v2 ⟨G2,O2,R2,X2,JE⟩;replace cO:=O2.cell;replace fO:=O2.frozen;replace zO:=O2.size;replace cR:=R2.cell;replace fR:=R2.frozen;replace zR:=R2.size;replace Rr:=X2.r;clear qO qR qX G1 O1 R1 X1;go_wp2;go_roundw;case rel=>exact⟨a++[c],r,s2,by rw[ZL,hq.out];go_num,by rw[JK.out];simp,by rw[List.map_append,List.sum_append,hs.out];simp[hSe.out,Ki.out],by rw[ZL,hq.out];exact⟨MI.1,Int.le_trans MI.2 ρp⟩,ρB,ρB,G2.ko (F:=λx=>x=w.heap.size+1) ρK σL,JE.toBelow.trans ρE⟩
   case measure=>exact ξc
theorem BG (v:ϗ)(L:List CD)(hc:∀c ∈ L,(0<=c.r0/\0<=c.r1/\0<=c.r2)/\kd c.r0 c.r1 c.r2≠0/\c.r2<=Md)(w:ϖ)(B:Nat)(G:aS 3 fu w B v L)(hl:L.length<=1000):
  CB 102 #[v,dK] w (nv (L.map λc=>c.r2).sum):=by
 obtain⟨oa,oc,rfl,-⟩:=G.slice;refine δf ?_;clear G hl;intro n hn G hl zB;obtain⟨Y,hY⟩:=Nq ((L.map λc=>c.r2).sum);rw[hY];unfold CB;go_in;go_wp2_with fail;go_loopw [12] (λk wr=>∃(a b:List CD) (s:Int),k=ι ε (a.length:Nat)/\L=a++b/\(a.map λc=>c.r2).sum=s/\(0<=s/\s<=a.length*Md)/\ah wr (w+1) #[(aX (s)),(bV (s)),(ij (s)),(jg (s))] 70/\ah wr w f9 70/\aS 3 fu wr B (ζ oa n oc) L/\Below w w wr) (λk _=>n - (intOf k).toNat);case atStart=>exact⟨[],L,0,rfl,rfl,rfl,by simp,ρu,ρB,G.below ρE,ρE⟩
 case round=>
  obtain⟨a,b,s,rfl,JK,hs,QZ,O0,R0,G0,JG⟩:=hrel;refine δa ?_;intro zw JO q hq;rw[hq] at JO QZ ⊢;have LU:q<=n:=ρa;have VE:ai s:=ρz;have zO:=O0.size;have zR:=R0.size;have cO:=O0.cell;have fO:=O0.frozen;have cR:=R0.cell;have fR:=R0.frozen;cases b with
  | nil=>
   refine η4 ?_;intro JM hd;have Ke:Y=s:=by rw[<- hY,JK,ZA];exact hs
   subst Ke;change Hid _ at JO JK hq hs hY;go_wp2_with fail;refine δW ?_;rintro v9 R9 k9;have KS:=R9.cell;refine ZO (v:=nv Y) (by simp[results,Tryz.results102,go_sem,KS]) rfl ?_;exact⟨rfl,JG.trans (k9.below zw ρF)⟩
  | cons c r=>
   refine δD ?_;intro JM hd Kd;have My:q<n:=ρa;obtain⟨g0,off,rfl,hg,RA⟩:=G0.at Kd;have Oc:g0<wr:=ρa;have hS:=hc c ρP;obtain⟨KR,PD,hS2⟩:=hS;obtain⟨kv,LQ⟩:=Nq (kd c.r0 c.r1 c.r2);rw[LQ] at PD;have d5:(kv !=0)=true:=by simpa using PD
   obtain⟨s2,Ki⟩:=Nq (s+c.r2);have UG:ai c.r2:=ρz;have QK:ai s2:=ρz;have MI:0<=s2/\s2<=(q+1)*Md:=ρa;replace JG:=KO.of_below (F:=λ_=>False) JG;have nXO:wr.heap.size≠w+1:=ρa;clear PD;change Hid _ at JO hq JK Kd hn LQ Ki hs hY;go_upto_region 4 with (fail);go_upto_region 5 with (refine Go.wpList_load_mid rfl 41 _ rfl g0 (off+q*3) rfl (fu c) _ RA Tryz.underlying41 rfl ρh ?_;try simp only[fu]);refine Jw (θ4 JG G0 O0 R0) (λv=>ah v wr (aJ c.r0 c.r1 c.r2) 41) ρB ?_;rintro v1 X1 ⟨I',G1,O1,R1⟩;replace cO:=O1.cell;replace fO:=O1.frozen;replace zO:=O1.size;replace cR:=R1.cell;replace fR:=R1.frozen;replace zR:=R1.size;have Rr:=X1.r;go_wp2_with fail;refine Zc (θ5 I' G1 O1 R1 X1) ?_;rintro v2 ⟨JE,G2,O2,R2,X2⟩;replace cO:=O2.cell;replace fO:=O2.frozen;replace zO:=O2.size;replace cR:=R2.cell;replace fR:=R2.frozen;replace zR:=R2.size;replace Rr:=X2.r;refine(bM c.r0 c.r1 c.r2 kv v2 KR.1 KR.2.1 KR.2.2 LQ.out).mono ?_;rintro e v3 ⟨rfl,kx⟩;obtain⟨G3,O3,R3,X3,JI⟩:=Mw kx (θ5 G2 O2 R2 X2 JE);replace cO:=O3.cell;replace fO:=O3.frozen;replace zO:=O3.size;replace cR:=R3.cell;replace fR:=R3.frozen;replace zR:=R3.size;replace Rr:=X3.r;clear kx;go_upto_region 9 with (fail);refine Zw (θ5 JI G3 O3 R3 X3) ?_;rintro v4 ⟨JJ,G4,O4,R4,X4⟩;replace cO:=O4.cell;replace fO:=O4.frozen;replace zO:=O4.size;replace cR:=R4.cell;replace fR:=R4.frozen;replace zR:=R4.size;replace Rr:=X4.r;have qO:=ae O4;have qR:=ae R4;have qX:=ae X4;refine Ws 4 (nY ?_)
   repeat (go_big_quiet_step ((first
     | (go_at_call 60;(with_reducible exact bZ (BF c.r2 _ KR.2.2 ρa)))
     | (go_at_call 59;(with_reducible exact bZ (kh s c.r2 s2 _ VE UG Ki.out QK))))))
   refine Zq (θ5 G4 O4 R4 X4 JJ) ?_;rintro v5 ⟨G5,O5,R5,X5,JP⟩;replace cO:=O5.cell;replace fO:=O5.frozen;replace zO:=O5.size;replace cR:=R5.cell;replace fR:=R5.frozen;replace zR:=R5.size;replace Rr:=X5.r;clear qO qR qX G4 O4 R4 X4;go_wp2;go_roundw;case rel=>exact⟨a++[c],r,s2,by rw[ZL,hq.out];go_num,by rw[JK.out];simp,by rw[List.map_append,List.sum_append,hs.out];simp[Ki.out],by rw[ZL,hq.out];exact⟨MI.1,Int.le_trans MI.2 ρp⟩,ρB,ρB,G5.ko (F:=λx=>x=w.heap.size+1) ρK σL,JP.toBelow.trans ρE⟩
   case measure=>exact ξc
theorem DZ (t l:Int)(w:ϖ):
  CB 27 #[φ #[ι ε t,ι ε l]] w (β (decide (1<=t/\t<=65536/\1<=l/\l<=16384))):=by
 obtain⟨z,hz⟩:∃z,decide (1<=t/\t<=65536/\1<=l/\l<=16384)=z:=⟨_,rfl⟩;rw[hz];by_cases c0:1<=t
 rotate_left
 ·have d0:=ZF c0;exact ξE
 have d0:=ZT c0;by_cases c1:t<=65536
 rotate_left
 ·have d1:=ZF c1;exact ξE
 have d1:=ZT c1;by_cases c2:1<=l
 rotate_left
 ·have d2:=ZF c2;exact ξE
 have d2:=ZT c2;by_cases c3:l<=16384
 rotate_left
 ·have d3:=ZF c3;exact ξE
 have d3:=ZT c3;have KN:z=true:=by rw[<- hz];exact ZT ⟨c0,c1,c2,c3⟩
 subst KN;replace hz:=ag hz;unfold CB;go_in;go_wp2;go_ret;exact⟨rfl,ρE⟩
def Cu (x:CD)(L:List CD):Prop:=WC x=0/\(∃d,fc L x.id=some d/\d.par=x.par/\d.lf=x.lf)/\(eV x=true->kJ L x.par=true)/\(eV x=false->∀a ∈ L,a.par=x.id->kJ L a.id=false)
theorem Ij (v:ϗ)(L:List CD)(x:CD)(hx:CN x)(hq:∀c ∈ L,CN c)(w:ϖ)(B:Nat)(G:aS 14 eI w B v L)(hl:L.length<=1000):Calls Ψ 66 #[v,φ (fd x)] w λe w'=>∃sa sn sc m,e=ϰ (φ #[ζ sa sn sc,ι ε m])/\(m=0->af 43 14 eI w' w (ζ sa sn sc) (bS x false L)/\Cu x L)/\Below w w w':=by
 obtain⟨oa,oc,rfl,-⟩:=G.slice;refine δf ?_;clear G hl;intro n hn G hl zB;have Nr:L.length<=1000:=ρa;obtain⟨cw,Yn⟩:=Nq (WC x);replace Yn:=ag Yn;go_in;go_wp2_with fail;refine δH ?_;intro v1 C1 R1 I' G1 v2 G2 C2 R2 JE Rr;by_cases c1:cw=0
 rotate_left
 ·have d1:(cw !=0)=true:=by simpa using c1
  go_wp2_with fail;refine eD v2 (λx=>x=(w.heap.size+1)) (λv=>ah v ((w+1)) #[ζ oa n oc,ι ε cw] 112) ρB (λ_ kx=>kx) ?_;rintro v9 R9 k9;have KS:=R9.cell;refine ZO (v:=φ #[ζ oa n oc,ι ε cw]) σM rfl ?_;exact⟨_,_,_,cw,rfl,λh=>az h c1,JE.toBelow.trans (k9.below JE.size ρF)⟩
 subst c1;go_wp2_with fail;refine Zc (θ4 JE G2 C2 R2) ?_;rintro v3 ⟨JI,G3,C3,R3⟩;refine(nw _ L x.id v3 B G3 ρa).mono ?_;rintro e v4 ⟨i,rfl,hi,kx⟩;clear Rr;obtain⟨⟨G4,C4,R4,JJ⟩,Rr⟩:=Mx kx (θ4 G3 C3 R3 JI);clear kx;rcases hi with ⟨rfl,hf⟩|⟨kk,d,rfl,hk,hf⟩
 ·go_wp2_with fail;refine eD v4 (λx=>x=(w.heap.size+1)) (λv=>ah v ((w+1)) #[ζ oa n oc,ι ε 6] 112) ρB (λ_ kx=>kx) ?_;rintro v9 R9 k9;have KS:=R9.cell;refine ZO (v:=φ #[ζ oa n oc,ι ε 6]) σM rfl ?_;exact⟨_,_,_,6,rfl,λh=>az h ρf,JJ.toBelow.trans (k9.below JJ.size ρF)⟩
 have PD:kk<n:=by have:=(List.getElem?_eq_some_iff.1 hk).1;omega
 have JM:(kk:Int)<(n:Int):=ρa;obtain⟨g0,off,rfl,hg,RA⟩:=G4.at hk;have b1:v4.cell? ⟨g0,off+kk*14+1,none⟩=some (ι ε d.par):=RA 1 _ rfl;have b2:v4.cell? ⟨g0,off+kk*14+2,none⟩=some (β d.lf):=RA 2 _ rfl;change Hid _ at hk hf hn;obtain⟨dl,MF⟩:=Nq d.lf;rw[MF] at b2;have c2:=C4.cell 2;go_upto_region 7 with fail;go_cut [42] from 25 to 41 (λt wx=>∃z:Bool,t=β z/\(z=false->d.par=x.par/\d.lf=x.lf)/\ah wx w (fd x) 43/\ah wx (w+1) #[Kn,Kz] 112/\aS 14 eI wx B (ζ (some ⟨g0,off,none⟩) n oc) L/\KO (λ_=>False) w wx);case first=>
  by_cases c3:d.par=x.par
  rotate_left
  ·have d3:(d.par !=x.par)=true:=by simpa using c3
   go_region
   all_goals (go_wp2;go_meet)
   exact⟨_,rfl,λh=>az h ρf,ρB,ρB,G4.below ρE,JJ.step0 ρE⟩
  ·have d3:(d.par !=x.par)=false:=by simp[c3]
   obtain⟨z,hz⟩:=Nq (dl !=x.lf);replace c3:=ag c3;go_region
   all_goals (go_wp2;go_meet)
   exact⟨_,rfl,λh=>⟨c3.out,by have h2:=h;rw[MF];revert h2;cases dl<;>cases x.lf<;>simp⟩,ρB,ρB,G4.below ρE,JJ.step0 ρE⟩
 case rest=>
  obtain⟨z,rfl,Lc,C4',R4',G4',k04'⟩:=hcut;clear C4 R4 G4 JJ;have C4:=C4';have R4:=R4';have G4:=G4';have JJ:=k04';clear C4' R4' G4' k04';replace Rr:=θ2 C4.r R4.r;cases z
  rotate_left
  ·go_wp2_with fail;refine eD wc (λx=>x=(w.heap.size+1)) (λv=>ah v ((w+1)) #[ζ (some ⟨g0,off,none⟩) n oc,Ko] 112) ρB (λ_ kx=>kx) ?_;rintro v9 R9 k9;have KS:=R9.cell;refine ZO (v:=φ #[ζ (some ⟨g0,off,none⟩) n oc,Ko]) σM rfl ?_;exact⟨_,_,_,1,rfl,λh=>az h ρf,JJ.toBelow.trans (k9.below JJ.size ρF)⟩
  replace Lc:=ag (Lc rfl);clear b1 b2;obtain⟨kv,LQ⟩:=Nq (kd x.l0 x.l1 x.l2);have Lx:eV x=de kv:=by rw[<- LQ];rfl
  obtain⟨sb,QZ⟩:=Nq (kJ L x.par);change Hid _ at LQ Lx QZ;go_wp2_with fail;refine Zc (θ4 JJ C4 R4 G4) ?_;rintro v5 ⟨JP,C5,R5,G5⟩;refine(bM x.l0 x.l1 x.l2 kv v5 hx.2.1.1 hx.2.1.2.1 hx.2.1.2.2 LQ.out).mono ?_;rintro e v6 ⟨rfl,kx⟩;clear Rr;obtain⟨⟨C6,R6,G6,JT⟩,Rr⟩:=Mx kx (θ4 C5 R5 G5 JP);clear kx;obtain⟨sx,Um⟩:=Nq (decide (1<kv));have KI:eV x=sx:=by rw[Lx.out,<- Um];rfl
  replace KI:=ag KI;go_upto_region 10 with fail;go_cut [56] from 49 to 55 (λt wx=>∃y:Bool,t=β y/\(y=false->sx=true->sb=true)/\ah wx w (fd x) 43/\ah wx (w+1) #[Kn,Kz] 112/\aS 14 eI wx B (ζ (some ⟨g0,off,none⟩) n oc) L/\KO (λ_=>False) w wx);case first=>
   cases sx
   ·go_wp2;go_meet;exact⟨_,rfl,λ_ h=>az h ρf,ρB,ρB,G6.below ρE,JT.step0 ρE⟩
   ·go_wp2_with fail;refine Zc (θ4 JT C6 R6 G6) ?_;rintro v7 ⟨J7,C7,R7,G7⟩;refine(oV _ L x.par hq v7 B G7 ρa).mono ?_;rintro e v8 ⟨rfl,kx⟩;clear Rr;obtain⟨⟨C8,R8,G8,Ka⟩,Rr⟩:=Mx kx (θ4 C7 R7 G7 J7);clear kx;rw[QZ.out];cases sb
    ·go_wp2;go_meet;exact⟨_,rfl,λh=>az h ρf,ρB,ρB,G8.below ρE,Ka.step0 ρE⟩
    ·go_wp2;go_meet;exact⟨_,rfl,λ_ _=>by first|rfl|trivial,ρB,ρB,G8.below ρE,Ka.step0 ρE⟩
  case rest=>
   obtain⟨y,rfl,Qz,C8,R8,G8,Ka⟩:=hcut;replace Rr:=θ2 C8.r R8.r;cases y
   rotate_left
   ·go_wp2_with fail;refine eD wc (λx=>x=(w.heap.size+1)) (λv=>ah v ((w+1)) #[ζ (some ⟨g0,off,none⟩) n oc,ι ε 29] 112) ρB (λ_ kx=>kx) ?_;rintro v9 R9 k9;have KS:=R9.cell;refine ZO (v:=φ #[ζ (some ⟨g0,off,none⟩) n oc,ι ε 29]) σM rfl ?_;exact⟨_,_,_,29,rfl,λh=>az h ρf,Ka.toBelow.trans (k9.below Ka.size ρF)⟩
   replace Qz:=ag (Qz rfl);go_wp2_with fail;refine Zc (θ4 Ka C8 R8 G8) ?_;rintro v9 ⟨Km,C9,R9,G9⟩;refine(nt _ L x.id v9 B G9 ρa).mono ?_;rintro e N0 ⟨u,rfl,HK,kx⟩;clear Rr;obtain⟨⟨VG,TR,SO,Kg⟩,Rr⟩:=Mx kx (θ4 C9 R9 G9 Km);clear kx;obtain⟨zs,Wi⟩:=Nq ((List.filter (λc:CD=>c.par==x.id) L).map CD.id);have hzl:zs.length<=1000:=by rw[<- Wi,px];exact ZK (ZH _ _) (by rw[hn.out];exact hl)
   rw[Wi] at HK;have WP:=af.rd HK (λ_=>rfl);obtain⟨B2,OQ⟩:=Nq N0.heap.size;rw[OQ] at WP;clear HK;obtain⟨ub,uc,rfl,-⟩:=aS.slice WP;obtain⟨m,hm⟩:=Nq zs.length;rw[hm] at WP hzl ⊢;replace Wi:=ag Wi;have zB2:B2<=N0:=ρa;go_wp2_with fail;go_loopw [64] (λk wr=>∃(a b:List Int),k=ι ε (a.length:Nat)/\zs=a++b/\(sx=false->∀i ∈ a,kJ L i=false)/\ah wr (w+1) #[Kn,Kz] 112/\ah wr w (fd x) 43/\aS 14 eI wr B (ζ (some ⟨g0,off,none⟩) n oc) L/\aS 1 (λx:Int=>[Value.int .i64 x]) wr B2 (ζ ub m uc) zs/\KO (λ_=>False) w wr) (λk _=>m - (intOf k).toNat);case atStart=>exact⟨[],zs,rfl,rfl,λ_ i h=>az h ρp,ρB,ρB,SO.below ρE,WP.below ρE,Kg.step0 ρE⟩
   case round=>
    obtain⟨a,b,rfl,JK,MH,N4,C11,Sf,Yc,KE⟩:=hrel;have zw:=KE.size;have JO:a.length+b.length=m:=τY;obtain⟨q,LU⟩:=Nq a.length;rw[LU] at JO ⊢;clear TR VG SO WP Kg;have Ss:=θ2 N4.r C11.r;cases b with
    | nil=>have KQ:¬(q:Int)<(m:Int):=ρn;have hd:=ZF KQ;have hza:zs=a:=ρL;change Hid _ at JO JK LU MH hza;go_wp2_with fail;refine Zc (θ4 KE N4 C11 Sf) ?_;rintro Oe ⟨Kl,Rp,C12,Qk⟩;refine(F4 _ L x Oe B Qk ρa).mono ?_;rintro e PP ⟨u,rfl,HP,kx⟩;clear Rr Ss;obtain⟨⟨R13,C13,YY,Li⟩,Rr⟩:=Mx kx (θ4 Rp C12 Qk Kl);clear kx;have Vr:w.heap.size+1<Oe:=Rp.size;obtain⟨ps,LS⟩:=Nq (bS x false L);rw[LS] at HP;obtain⟨pb,pc,rfl⟩:=af.slice HP;obtain⟨y,hy⟩:∃y:Nat,ps.length=y:=⟨_,rfl⟩;rw[hy] at HP ⊢;change Hid _ at LS hy;go_wp2_with fail;refine eD PP (λx=>x=(w.heap.size+1)) (λv=>ah v ((w+1)) #[ζ pb y pc,Kz] 112) ρB (λ_ kx=>kx) ?_;rintro v9 R9 k9;have KS:=R9.cell;refine ZO (v:=φ #[ζ pb y pc,Kz]) σM rfl ?_;exact⟨_,_,_,0,rfl,λ_=>⟨by rw[LS.out];exact(af.ko HP k9 (λx hx _ e=>by have:=Vr;omega)).base_le (by have:=Vr;omega),Yn.out,⟨d,hf.out,Lc.out⟩,λh=>by rw[QZ.out];exact Qz.out (by rw[<- KI.out];exact h),λh a ha e=>by have h9:a.id ∈ zs:=(by rw[<- Wi.out];exact List.mem_map.2 ⟨a,ZE.2 ⟨ha,beq_iff_eq.2 e⟩,rfl⟩);rw[hza.out] at h9;exact MH.out (by rw[<- KI.out];exact h) _ h9⟩,Li.toBelow.trans (k9.below Li.size ρF)⟩
    | cons c r=>
     have KQ:(q:Int)<(m:Int):=ρn;have hd:=ZT KQ;have Kd:zs[q]?=some c:=by rw[JK,<- LU];simp
     have My:q<m:=ρa;have zZ:B2<=wr:=by obtain⟨_,_,_,_,h,_⟩:=Yc;exact h
     obtain⟨g1,QD,rfl,hg1,Zn⟩:=Yc.at Kd;have b0:wr.cell? ⟨g1,QD+q*1,none⟩=some (ι ε c):=Zn 0 _ rfl;have bb:wr.cell? ⟨g1,QD+q,none⟩=some (ι ε c):=κd;have Oc:g1<wr:=ρa;change Hid _ at JO LU JK Kd MH hm;cases sx
     rotate_left
     ·go_wp2;go_roundw;case rel=>exact⟨a++[c],r,by rw[ZL,LU.out];go_num,by rw[JK.out];simp,λh=>az h ρf,ρB,ρB,Sf.below ρE,Yc.below ρE,KE.step0 ρE⟩
      case measure=>exact ξc
     ·obtain⟨sc,OV⟩:=Nq (kJ L c);replace OV:=ag OV;go_wp2_with fail;refine Zc (θ5 KE N4 C11 Sf Yc) ?_;rintro Oe ⟨Kl,Rp,C12,Qk,Z12⟩;refine(oV _ L c hq Oe B Qk ρa).mono ?_;rintro e PP ⟨rfl,kx⟩;clear Rr Ss;obtain⟨⟨R13,C13,YY,Zy,Li⟩,Rr⟩:=Mx kx (θ5 Rp C12 Qk Z12 Kl);clear kx;rw[OV.out];cases sc
      rotate_left
      ·go_wp2_with fail;refine eD PP (λx=>x=(w.heap.size+1)) (λv=>ah v ((w+1)) #[ζ (some ⟨g0,off,none⟩) n oc,ι ε 29] 112) ρB (λ_ kx=>kx) ?_;rintro v9 R9 k9;have KS:=R9.cell;refine ZO (v:=φ #[ζ (some ⟨g0,off,none⟩) n oc,ι ε 29]) σM rfl ?_;exact⟨_,_,_,29,rfl,λh=>az h ρf,Li.toBelow.trans (k9.below Li.size ρF)⟩
      ·go_wp2;go_roundw;case rel=>exact⟨a++[c],r,by rw[ZL,LU.out];go_num,by rw[JK.out];simp,λ_ i hi=>(ZM.1 hi).elim (MH.out (by first|rfl|trivial) i) (λh=>by rw[ZS.1 h];exact OV.out),ρB,ρB,YY.below ρE,Zy.below ρE,Li.step0 ρE⟩
       case measure=>exact ξc
theorem oG (x:CD)(i:Int):∀L:List CD,fc (fy x L) i=if i=x.id then some x else fc L i
 | []=>by simp[fy,fc]
 | c::r=>by
  have ih:=oG x i r;unfold fy;by_cases h:x.id=c.id
  ·rw[ZP h];simp only[fc];by_cases e:i=x.id
   ·rw[ZP e,ZP e]
   ·rw[ZI e,ZI e,ZI ρa]
  ·rw[ZI h];exact ηW
theorem iO {p:CD->Bool} {id:Int} (hp:∀c,p c=true↔c.id≠id)(i:Int):∀L:List CD,fc (L.filter p) i=if i=id then none else fc L i
 | []=>by simp[fc]
 | c::r=>by
  have ih:=iO hp i r;rw[List.filter_cons];by_cases h:p c=true
  ·have:=(hp c).1 h;rw[ZP h];exact ηW
  ·have:c.id=id:=EX λg=>h ((hp c).2 g);rw[ZI h,ih];by_cases e:i=id
   ·rw[ZP e,ZP e]
   ·rw[ZI e,ZI e];simp only[fc];rw[ZI ρa]
theorem AX (id i:Int)(L:List CD):fc (qp id L) i=if i=id then none else fc L i:=iO ρp i L
theorem sV (i:Int)(b:List CD):∀a:List CD,fc (a++b) i=match fc a i with|some c=>some c|none=>fc b i
 | []=>rfl
 | c::r=>by
  simp only[List.cons_append,fc];by_cases e:i=c.id
  ·rw[ZP e,ZP e]
  ·rw[ZI e,ZI e];exact sV i b r
theorem iP (x:CD)(i:Int):∀(L:List CD)(d:Bool),fc (bS x d L) i=if i=x.id then (if d=true then none else some x) else fc L i
 | [],d=>by cases d<;>simp[bS,fc]
 | c::r,d=>by
  have ih:=iP x i r (d || decide (x.id<=c.id));unfold bS;rw[sV,sV,ih];simp only[fc];by_cases h3:i=x.id
  ·subst h3;rw[ZP rfl,ZP rfl];by_cases h2:c.id=x.id
   ·cases d with
    | true=>rw[ZI ρp,ZP h2];simp[fc]
    | false=>rw[ZP ⟨rfl,by omega⟩];simp[fc]
   ·rw[ZI h2];have h4:¬x.id=c.id:=λe=>h2 e.symm;cases d with
    | true=>rw[ZI ρp];simp[fc,h4]
    | false=>
     by_cases h1:x.id<=c.id
     ·rw[ZP ⟨rfl,h1⟩];simp[fc]
     ·rw[ZI (λg=>h1 g.2)];simp[fc,h4,h1]
  ·rw[ZI h3,ZI h3];have e1:fc (if d=false/\x.id<=c.id then [x] else []) i=none:=by split<;>simp[fc,h3]
   rw[e1];by_cases h2:c.id=x.id
   ·rw[ZP h2,ZI ρa];rfl
   ·rw[ZI h2];by_cases h4:i=c.id
    ·rw[ZP h4];simp[fc,h4]
    ·rw[ZI h4];simp[fc,h4]
theorem jt {L:List CD} {i:Int}:fc L i=none↔i ∉ L.map CD.id:=by
 induction L with
 | nil=>simp[fc]
 | cons c r ih=>
  simp only[fc,fV,ZC,not_or];by_cases e:i=c.id
  ·rw[ZP e];simp[e]
  ·rw[ZI e,ih];simp[e]
theorem eO {L:List CD} (h:(L.map CD.id).Nodup):∀c ∈ L,fc L c.id=some c:=by
 induction L with
 | nil=>intro c hc;cases hc
 | cons a r ih=>
  intro c hc;rw[fV,ZD] at h;simp only[fc];rcases ZC.1 hc with e|e
  ·rw[ZP (by rw[e]),e]
  ·rw[ZI (λg=>h.1 (by rw[<- g];exact List.mem_map.2 ⟨c,e,rfl⟩))];exact ih h.2 c e
theorem mh (x:CD):∀{L:List CD},(L.map CD.id).Nodup->((fy x L).map CD.id).Nodup
 | [],_=>by simp[fy]
 | c::r,h=>by
  rw[fV,ZD] at h;unfold fy;by_cases e:x.id=c.id
  ·rw[ZP e,fV,ZD,e];exact h
  ·rw[ZI e,fV,ZD];refine⟨?_,mh x h.2⟩;rw[<- jt,oG,ZI ρa];exact jt.2 h.1
theorem ju (p:CD->Bool) {L:List CD} (h:(L.map CD.id).Nodup):((L.filter p).map CD.id).Nodup:=h.sublist (List.filter_sublist.map _)
theorem gN (x:CD):∀{L:List CD} (d:Bool),(L.map CD.id).Nodup->((bS x d L).map CD.id).Nodup
 | [],d,_=>by cases d<;>simp[bS]
 | c::r,d,h=>by
  rw[fV,ZD] at h;have ih:=gN x (d || decide (x.id<=c.id)) h.2;have hx:d=true\/x.id<=c.id->x.id ∉ (bS x (d || decide (x.id<=c.id)) r).map CD.id:=λg=>by rw[<- jt,iP,ZP rfl,ZP (by rcases g with g|g<;>simp[g])]
  have hc:c.id≠x.id->c.id ∉ (bS x (d || decide (x.id<=c.id)) r).map CD.id:=λg=>by rw[<- jt,iP,ZI g];exact jt.2 h.1
  unfold bS;generalize hP:bS x (d || decide (x.id<=c.id)) r=P at ih hx hc;by_cases h1:d=false/\x.id<=c.id<;>by_cases h2:c.id=x.id
  ·simp only[ZP h1,ZP h2,ZA,List.singleton_append,fV,ZD];exact⟨hx (.inr h1.2),ih⟩
  ·simp only[ZP h1,ZI h2,List.singleton_append,List.cons_append,List.nil_append,fV,ZD,ZC,not_or];exact⟨⟨λg=>h2 g.symm,hx (.inr h1.2)⟩,hc h2,ih⟩
  ·simp only[ZI h1,ZP h2,List.nil_append];exact ih
  ·simp only[ZI h1,ZI h2,List.nil_append,List.singleton_append,fV,ZD];exact⟨hc h2,ih⟩
theorem gm (x:CD):∀(L:List CD)(d:Bool),(bS x d L).length<=L.length+(if d=true then 0 else 1)
 | [],d=>by cases d<;>simp[bS]
 | c::r,d=>by have ih:=gm x r (d || decide (x.id<=c.id));unfold bS;cases d<;>by_cases h1:x.id<=c.id<;>by_cases h2:c.id=x.id<;>simp[h1,h2] at ih ⊢<;>omega
def lx (k:Int)(x:CD)(L M:List CD):Prop:=(k=1/\Cq x L/\M=bS x false L)\/(k=2/\(∃d,fc L x.id=some d)/\(∀a ∈ L,a.par≠x.id)/\M=L.filter (λc:CD=>c.id !=x.id))\/(k=3/\Cu x L/\M=bS x false L)
def dw:List (Int × CD)->List CD->List CD->Prop
 | [],L,M=>M=L
 | c::r,L,M=>∃K,lx c.1 c.2 L K/\dw r K M
theorem dw.snoc {k:Int} {x:CD}:∀{a:List (Int × CD)} {L M N:List CD},dw a L M->lx k x M N->dw (a++[(k,x)]) L N
 | [],L,M,N,h,g=>by cases h;exact⟨N,g,rfl⟩
 | c::r,L,M,N,⟨K,h1,h2⟩,g=>⟨K,h1,h2.snoc g⟩
theorem qj (x c:CD):∀(L:List CD)(d:Bool),c ∈ bS x d L->c=x\/c ∈ L
 | [],d,h=>by cases d<;>simp[bS] at h;exact .inl h
 | a::r,d,h=>by
  unfold bS at h;rcases ZM.1 h with h|h
  ·rcases ZM.1 h with h|h
   ·split at h
    ·exact .inl (ZS.1 h)
    ·cases h
   ·split at h
    ·cases h
    ·exact .inr (by rw[ZS.1 h];simp)
  ·exact(qj x c r _ h).imp id (λg=>by simp[g])
theorem lx.keep {k:Int} {x:CD} {L M:List CD} (s:lx k x L M)(hx:CN x)(hq:∀c ∈ L,CN c):M.length<=L.length+1/\∀c ∈ M,CN c:=by
 have hp:(bS x false L).length<=L.length+1/\∀c ∈ bS x false L,CN c:=⟨gm x L false,λc hc=>(qj x c L false hc).elim (λe=>e ▸ hx) (hq c)⟩;rcases s with ⟨_,_,rfl⟩|⟨_,_,_,rfl⟩|⟨_,_,rfl⟩
 ·exact hp
 ·exact⟨ZK (ZH _ _) ρa,λc hc=>hq c (ZE.1 hc).1⟩
 ·exact hp
theorem Ih (v:ϗ)(L:List CD)(k:Int)(x:CD)(hx:CN x)(hq:∀c ∈ L,CN c)(w:ϖ)(B:Nat)(G:aS 14 eI w B v L)(hl:L.length<=1000):Calls Ψ 45 #[v,φ #[ι ε k,ι ε x.id,ι ε x.par,β x.lf,x.r0,x.r1,x.r2,x.l0,x.l1,x.l2,x.u0,x.u1,x.u2,ι ε x.pk,ι ε x.by_]] w λe w'=>∃sa sn sc m,e=ϰ (φ #[ζ sa sn sc,ι ε m])/\(m=0->∃M,af 43 14 eI w' w (ζ sa sn sc) M/\lx k x L M)/\Below w w w':=by
 obtain⟨oa,oc,rfl,-⟩:=G.slice;refine δf ?_;clear G hl;intro n hn G hl zB;by_cases c1:k=1
 ·subst c1;go_in;go_wp2_with fail;refine Jc (θ2 (Ks (λ_=>False) w) G) (λv=>ah v w #[Ko,ι ε x.id,ι ε x.par,β x.lf,x.r0,x.r1,x.r2,x.l0,x.l1,x.l2,x.u0,x.u1,x.u2,ι ε x.pk,ι ε x.by_] 86/\ah v (w+1) #[Kn,Kz] 112) ⟨ρB,ρB⟩ ?_;rintro v1 ⟨C1,R1⟩ ⟨I',G1⟩;have Rr:=θ2 C1.r R1.r;have hR1:=R1.size;refine(If _ L x hx hq v1 B G1 ρa).mono ?_;rintro e v2 ⟨sa,sn,sc,m,rfl,hm,kx⟩;clear Rr;obtain⟨⟨G2,C2,R2,JE⟩,Rr⟩:=Mx kx (θ4 G1 C1 R1 I');clear kx;have zv1:w.heap.size<=v2:=by have:=JE.size;exact this
  have z01:=I'.size;go_wp2_with fail;refine δp ?_;intro v9 R9 k9 KS;refine⟨sa,sn,sc,m,rfl,λh=>?_,JE.toBelow.trans (k9.below JE.size ρF)⟩;refine δP ?_;intro Yk hm HG;exact⟨bS x false L,HG,.inl ⟨rfl,hm.out.2,rfl⟩⟩
 by_cases c2:k=2
 ·subst c2;go_in;go_wp2_with fail;refine Jc (θ2 (Ks (λ_=>False) w) G) (λv=>ah v w #[ι ε 2,ι ε x.id,ι ε x.par,β x.lf,x.r0,x.r1,x.r2,x.l0,x.l1,x.l2,x.u0,x.u1,x.u2,ι ε x.pk,ι ε x.by_] 86/\ah v (w+1) #[Kn,Kz] 112) ⟨ρB,ρB⟩ ?_;rintro v1 ⟨C1,R1⟩ ⟨I',G1⟩;have Rr:=θ2 C1.r R1.r;have hR1:=R1.size;refine(Im _ L x.id v1 B G1 ρa).mono ?_;rintro e v2 ⟨sa,sn,sc,m,rfl,hm,kx⟩;clear Rr;obtain⟨⟨G2,C2,R2,JE⟩,Rr⟩:=Mx kx (θ4 G1 C1 R1 I');clear kx;have zv1:w.heap.size<=v2:=by have:=JE.size;exact this
  have z01:=I'.size;go_wp2_with fail;refine δp ?_;intro v9 R9 k9 KS;refine⟨sa,sn,sc,m,rfl,λh=>?_,JE.toBelow.trans (k9.below JE.size ρF)⟩;refine δP ?_;intro Yk hm HG;exact⟨L.filter (λc:CD=>c.id !=x.id),HG,.inr (.inl ⟨rfl,hm.out.2.1,hm.out.2.2,rfl⟩)⟩
 by_cases c3:k=3
 ·subst c3;go_in;go_wp2_with fail;refine Jc (θ2 (Ks (λ_=>False) w) G) (λv=>ah v w #[ι ε 3,ι ε x.id,ι ε x.par,β x.lf,x.r0,x.r1,x.r2,x.l0,x.l1,x.l2,x.u0,x.u1,x.u2,ι ε x.pk,ι ε x.by_] 86/\ah v (w+1) #[Kn,Kz] 112) ⟨ρB,ρB⟩ ?_;rintro v1 ⟨C1,R1⟩ ⟨I',G1⟩;have Rr:=θ2 C1.r R1.r;have hR1:=R1.size;refine(Ij _ L x hx hq v1 B G1 ρa).mono ?_;rintro e v2 ⟨sa,sn,sc,m,rfl,hm,kx⟩;clear Rr;obtain⟨⟨G2,C2,R2,JE⟩,Rr⟩:=Mx kx (θ4 G1 C1 R1 I');clear kx;have zv1:w.heap.size<=v2:=by have:=JE.size;exact this
  have z01:=I'.size;go_wp2_with fail;refine δp ?_;intro v9 R9 k9 KS;refine⟨sa,sn,sc,m,rfl,λh=>?_,JE.toBelow.trans (k9.below JE.size ρF)⟩;refine δP ?_;intro Yk hm HG;exact⟨bS x false L,HG,.inr (.inr ⟨rfl,hm.out.2,rfl⟩)⟩
 have d1:(k==1)=false:=ZN.2 c1;have d2:(k==2)=false:=ZN.2 c2;have d3:(k==3)=false:=ZN.2 c3;go_in;go_upto_region 2 with fail;refine Jw (θ2 (Ks (λ_=>False) w) G) (λv=>ah v w #[ι ε k,ι ε x.id,ι ε x.par,β x.lf,x.r0,x.r1,x.r2,x.l0,x.l1,x.l2,x.u0,x.u1,x.u2,ι ε x.pk,ι ε x.by_] 86/\ah v (w+1) #[Kn,Kz] 112) ⟨ρB,ρB⟩ ?_;rintro v1 ⟨C1,R1⟩ ⟨I',G1⟩;have Rr:=θ2 C1.r R1.r;go_wp2_with fail;refine eD v1 (λx=>x=(w.heap.size+1)) (λv=>ah v ((w+1)) #[ζ oa n oc,Ko] 112) ρB (λ_ kx=>kx) ?_;rintro v9 R9 k9;have KS:=R9.cell;refine ZO (v:=φ #[ζ oa n oc,Ko]) τv rfl ?_;exact⟨_,_,_,1,rfl,λh=>az h ρf,I'.toBelow.trans (k9.below I'.size ρF)⟩
end Go.Proofs.YtfdlemkplejdnaaGreat
