/- WholeBehind, part 34. Conditions: none. -/
import Derived.Test.YtfdlemkplejdnaaGreatA31
import Derived.Test.YtfdlemkplejdnaaGreatA32
namespace Go.Proofs.YtfdlemkplejdnaaGreat
open Go.RowKit Go.Sort
open Value renaming int->ι,pointer->ψ,slice->ζ,tuple->χ,agg->φ,map->μ,bool->β
open IntKind renaming u64->υ,i64->ε,u16->ω
open Ending renaming returned->ϰ
open Go.Proofs.Tryz renaming prog->Ψ,underlying3->Θ,underlying147->Δ,underlying152->Γ,underlying202->Φ,underlying39->Ξ,underlying207->Ω
open Go renaming World->ϖ,Value->ϗ
set_option linter.unusedVariables false
set_option linter.unusedSimpArgs false
set_option maxHeartbeats 8000000
set_option maxRecDepth 100000
abbrev Pt:=Nat->Nat
def Pt.more (p:Pt)(n k:Nat):Pt:=λx=>if x<n then p x else k
theorem Pt.more_lt {p:Pt} {n k x:Nat} (h:x<n):p.more n k x=p x:=ZP h
theorem Pt.more_ge {p:Pt} {n k x:Nat} (h:n<=x):p.more n k x=k:=ZI ρa
abbrev mQ (e:EV):List ϗ:=[ι ε e.op,β e.inn,β e.real,ι υ e.at_,ι υ e.done,ι ε e.cls,ι υ e.pk.id,ι ε e.pk.len,ι ω e.pk.h0,ι ω e.pk.h1,ι ω e.pk.h2,ι ω e.pk.h3]
abbrev cD (w:ϖ)(base:Nat)(v:ϗ)(l:List EV):Prop:=ae 52 12 mQ w base v l
def cu (p:Pt)(w:ϖ)(O base:Nat)(l:List EV):Prop:=∃v,ah w O #[v] 33/\cD w base v l/\p O=6/\∀x,some x=v.ownBlock->p x=6
theorem cu.ko {p:Pt} {w w':ϖ} {O base:Nat} {l:List EV} {F:Nat->Prop} (h:cu p w O base l)(k:KO F w w')(hF:∀x,p x=6->¬F x):cu p w' O base l:=by obtain⟨v,h1,h2,h3,h4⟩:=h;exact⟨v,h1.ko k (hF _ h3),ae.ko h2 k (λx _ hx=>hF x (h4 x hx)),h3,h4⟩
theorem cu.below {p:Pt} {w w':ϖ} {O base:Nat} {l:List EV} (h:cu p w O base l)(k:Below w w w'):cu p w' O base l:=h.ko (KO.of_below (F:=λ_=>False) k) (λ_ _ f=>f)
instance {p w O base l}:Mv (cu p w O base l) w (λv'=>cu p v' O base l):=⟨λk h=>cu.below h k⟩
theorem cu.part {p p':Pt} {w:ϖ} {O base:Nat} {l:List EV} (h:cu p w O base l)(e:∀x,x<w.heap.size->p x=6->p' x=6):cu p' w O base l:=by obtain⟨v,h1,h2,h3,h4⟩:=h;exact⟨v,h1,h2,e _ h1.size h3,λx hx=>e _ (ae.own_ge h2 x hx.symm).2 (h4 x hx)⟩
theorem cu.more {p:Pt} {w:ϖ} {O base:Nat} {l:List EV} (h:cu p w O base l)(n k:Nat)(hn:w<=n):cu (p.more n k) w O base l:=h.part (λx hx e=>(Pt.more_lt ρa).trans e)
abbrev Et (a b k t u:Int):Array ϗ:=#[ι υ a,ι υ b,ι υ k,ι ε t,ι υ u]
structure SA where
 (Y K B S:Nat)
 (a:Ad)
 (tb:List RL × List FW × List Int)
abbrev Hx (z:SA)(clk IA:Int):Array ϗ:=#[pt z.a.S,pt z.K,pt z.B,pt z.S,ι υ clk,ι ε IA]
def aD (p:Pt)(w:ϖ)(z:SA)(IA:Int)(N:Nat)(y:YS):Prop:=
 ah w z.Y (Hx z y.clk IA) 129/\p z.Y=1/\
 (∃u b k:Int,ah w z.K (Et u b k y.s.T y.til) 160/\0<=u/\u+y.s.pks<=N/\0<=b/\b<=u*16384/\0<=k/\k<=u*1073741824)/\p z.K=2/\
 (∃ft,bI w z.B z.tb.1 z.tb.2.1 z.tb.2.2 ft/\∀x,ft x->x<w.heap.size/\p x=3)/\
 (∃fs,aY w z.S fs N/\∀x,fs x->p x=4)/\
 ∃o,ar o w z.a y.s/\∀x,o x≠.no->x<w.heap.size/\p x=5
section
variable {p p':Pt} {w w':ϖ} {z:SA} {IA:Int} {N:Nat} {y:YS}
theorem aD.ko {F:Nat->Prop} (h:aD p w z IA N y)(k:KO F w w')(hF:∀x,F x->p x=0\/p x=6):aD p w' z IA N y:=by
 obtain⟨h1,h2,⟨u,b,q,h3,h4⟩,h5,⟨ft,h6,h7⟩,⟨fs,h8,h9⟩,o,PB,Nn⟩:=h;have hf:∀x n,p x=n->n≠0->n≠6->¬F x:=λx n e h0 h6 hx=>by have:=hF x hx;omega
 refine⟨h1.ko k (hf _ 1 h2 ρa ρa),h2,⟨u,b,q,h3.ko k (hf _ 2 h5 ρa ρa),h4⟩,h5,⟨ft,h6.ko k (λx hx=>hf x 3 (h7 x hx).2 ρa ρa),λx hx=>⟨ZB (h7 x hx).1 k.size,(h7 x hx).2⟩⟩,⟨fs,h8.ko k (λx hx=>hf x 4 (h9 x hx) ρa ρa),h9⟩,o,PB.ko k (λx hx=>?_),λx hx=>⟨ZB (Nn x hx).1 k.size,(Nn x hx).2⟩⟩;by_cases e:o x=.no
 ·exact e
 ·exact ax hx (hf x 5 (Nn x e).2 ρa ρa)
theorem aD.below (h:aD p w z IA N y)(k:Below w w w'):aD p w' z IA N y:=h.ko (KO.of_below (F:=λ_=>False) k) (λ_ f=>f.elim)
instance {p w z IA N y}:Mv (aD p w z IA N y) w (λv'=>aD p v' z IA N y):=⟨λk h=>aD.below h k⟩
theorem aD.part (h:aD p w z IA N y)(e:∀x,x<w.heap.size->1<=p x->p x<=5->p' x=p x):aD p' w z IA N y:=by obtain⟨h1,h2,⟨u,b,q,h3,h4⟩,h5,⟨ft,h6,h7⟩,⟨fs,h8,h9⟩,o,PB,Nn⟩:=h;have hs:∀x,fs x->x<w.heap.size:=τM;exact⟨h1,(e _ h1.size ρa ρa).trans h2,⟨u,b,q,h3,h4⟩,(e _ h3.size ρa ρa).trans h5,⟨ft,h6,λx hx=>⟨(h7 x hx).1,(e x (h7 x hx).1 (by have:=(h7 x hx).2;omega) (by have:=(h7 x hx).2;omega)).trans (h7 x hx).2⟩⟩,⟨fs,h8,λx hx=>(e x (hs x hx) (by have:=h9 x hx;omega) (by have:=h9 x hx;omega)).trans (h9 x hx)⟩,o,PB,λx hx=>⟨(Nn x hx).1,(e x (Nn x hx).1 (by have:=(Nn x hx).2;omega) (by have:=(Nn x hx).2;omega)).trans (Nn x hx).2⟩⟩
theorem aD.more (h:aD p w z IA N y)(n k:Nat)(hn:w<=n):aD (p.more n k) w z IA N y:=h.part (λx hx _ _=>Pt.more_lt ρa)
theorem aD.mono {N':Nat} (h:aD p w z IA N y)(hN:N<=N'):aD p w z IA N' y:=by obtain⟨h1,h2,⟨u,b,q,h3,h4,h4b,h4c⟩,h5,h6,⟨fs,h8,h9⟩,r⟩:=h;exact⟨h1,h2,⟨u,b,q,h3,h4,by omega,h4c⟩,h5,h6,⟨fs,h8.mono hN,h9⟩,r⟩
theorem aD.sched (h:aD p w z IA N y):∃o,ar o w z.a y.s/\∀x,o x≠.no->x<w.heap.size/\p x=5:=h.2.2.2.2.2.2
theorem aD.setS {o o':aT} {s':SS} {N':Nat} (h:aD p w z IA N y)(hN:N<=N')(ho:∀x,o x≠.no->x<w.heap.size/\p x=5)(k:KO (λx=>(o x).mine) w w')(H':ar o' w' z.a s')(e:∀x,x<w.heap.size->o' x=o x)(hT:s'.T=y.s.T)(hp:s'.pks+N<=y.s.pks+N'):aD (p.more w 5) w' z IA N' {y with s:=s'}:=by
 obtain⟨h1,h2,⟨u,b,q,h3,h4⟩,h5,⟨ft,h6,h7⟩,⟨fs,h8,h9⟩,-⟩:=h;have hs:∀x,fs x->x<w.heap.size:=τM;have hf:∀x n,p x=n->n≠5->¬(o x).mine:=λx n e h0 hx=>by have:=(ho x hx).2;omega
 refine⟨h1.ko k (hf _ 1 h2 ρa),(Pt.more_lt h1.size).trans h2,⟨u,b,q,?_,h4.1,?_,h4.2.2⟩,(Pt.more_lt h3.size).trans h5,⟨ft,h6.ko k (λx hx=>hf x 3 (h7 x hx).2 ρa),λx hx=>⟨ZB (h7 x hx).1 k.size,(Pt.more_lt (h7 x hx).1).trans (h7 x hx).2⟩⟩,⟨fs,(h8.ko k (λx hx=>hf x 4 (h9 x hx) ρa)).mono hN,λx hx=>(Pt.more_lt (hs x hx)).trans (h9 x hx)⟩,_,H'.own (o':=λx=>if x<w'.heap.size then o' x else .no) (λx hx=>ZP hx),λx hx=>?_⟩
 ·show ah w' z.K (Et u b q s'.T y.til) _;rw[hT];exact h3.ko k (hf _ 2 h5 ρa)
 ·have:=h4.2.1;show u+s'.pks<=_;omega
 ·by_cases hw:x<w'
  ·refine⟨hw,?_⟩;rw[ZP hw] at hx;by_cases Kx:x<w
   ·rw[Pt.more_lt Kx];exact(ho x (by rw[<- e x Kx];exact hx)).2
   ·exact Pt.more_ge ρa
  ·rw[ZI hw] at hx;exact ax rfl hx
theorem aD.setClk {clk ops':Int} (h:aD p w z IA N y)(k:KO (λx=>x=z.Y) w w')(hb:ah w' z.Y (Hx z clk ops') 129):aD p w' z ops' N {y with clk:=clk}:=by
 obtain⟨h1,h2,⟨u,b,q,h3,h4⟩,h5,⟨ft,h6,h7⟩,⟨fs,h8,h9⟩,o,PB,Nn⟩:=h;have hf:∀x n,p x=n->n≠1->¬x=z.Y:=λx n e h0 hx=>by rw[hx] at e;omega
 exact⟨hb,h2,⟨u,b,q,h3.ko k (hf _ 2 h5 ρa),h4⟩,h5,⟨ft,h6.ko k (λx hx=>hf x 3 (h7 x hx).2 ρa),λx hx=>⟨ZB (h7 x hx).1 k.size,(h7 x hx).2⟩⟩,⟨fs,h8.ko k (λx hx=>hf x 4 (h9 x hx) ρa),h9⟩,o,PB.ko k σ0,λx hx=>⟨ZB (Nn x hx).1 k.size,(Nn x hx).2⟩⟩
theorem aD.setK {u b q til:Int} (h:aD p w z IA N y)(k:KO (λx=>x=z.K) w w')(hb:ah w' z.K (Et u b q y.s.T til) 160)(hn:0<=u/\u+y.s.pks<=N/\0<=b/\b<=u*16384/\0<=q/\q<=u*1073741824):aD p w' z IA N {y with til:=til}:=by
 obtain⟨h1,h2,-,h5,⟨ft,h6,h7⟩,⟨fs,h8,h9⟩,o,PB,Nn⟩:=h;have hf:∀x n,p x=n->n≠2->¬x=z.K:=λx n e h0 hx=>by rw[hx] at e;omega
 exact⟨h1.ko k (hf _ 1 h2 ρa),h2,⟨u,b,q,hb,hn⟩,h5,⟨ft,h6.ko k (λx hx=>hf x 3 (h7 x hx).2 ρa),λx hx=>⟨ZB (h7 x hx).1 k.size,(h7 x hx).2⟩⟩,⟨fs,h8.ko k (λx hx=>hf x 4 (h9 x hx) ρa),h9⟩,o,PB.ko k σ0,λx hx=>⟨ZB (Nn x hx).1 k.size,(Nn x hx).2⟩⟩
theorem aD.setQ {fs fs':Nat->Prop} {N':Nat} (h:aD p w z IA N y)(Qj:∀x,fs x->p x=4)(k:KO fs w w')(hq:aY w' z.S fs' N')(hN:N<=N')(e:∀x,fs' x->fs x\/w.heap.size<=x)(IJ:∀x,fs x->x<w.heap.size):aD (p.more w 4) w' z IA N' y:=by
 obtain⟨h1,h2,⟨u,b,q,h3,h4,h4b,h4c⟩,h5,⟨ft,h6,h7⟩,-,o,PB,Nn⟩:=h;have hf:∀x n,p x=n->n≠4->¬fs x:=λx n e h0 hx=>by have:=Qj x hx;omega
 refine⟨h1.ko k (hf _ 1 h2 ρa),(Pt.more_lt h1.size).trans h2,⟨u,b,q,h3.ko k (hf _ 2 h5 ρa),h4,by omega,h4c⟩,(Pt.more_lt h3.size).trans h5,⟨ft,h6.ko k (λx hx=>hf x 3 (h7 x hx).2 ρa),λx hx=>⟨ZB (h7 x hx).1 k.size,(Pt.more_lt (h7 x hx).1).trans (h7 x hx).2⟩⟩,⟨fs',hq,λx hx=>?_⟩,o,PB.ko k (λx hx=>vW λe=>by have:=(Nn _ e).2;have:=Qj x hx;omega),λx hx=>⟨ZB (Nn x hx).1 k.size,(Pt.more_lt (Nn x hx).1).trans (Nn x hx).2⟩⟩;rcases e x hx with g|g
 ·exact(Pt.more_lt (IJ x g)).trans (Qj x g)
 ·exact Pt.more_ge g
theorem vd {ty:TypeId} {B:Nat} {m:TM} {fp:Nat->Prop} (h:aQ ty w B m fp):0<=dU m/\dU m<=Mc:=by
 obtain⟨T,M,t,L,h1,h2,h3,h4,h5,h6,h7,_⟩:=h;have rng:∀v,ib m Mc v->0<=v/\v<=9223372036854775808:=by
  rintro v ⟨h1,h2,h3⟩;rcases h1 with h1|⟨j,q,hq,h1⟩
  ·omega
  ·have:=h7 j q hq;omega
 unfold dU;split
 ·rename_i QN;exact rng _ (Classical.choose_spec QN)
 ·omega
theorem ar.due_rng {o:aT} {a:Ad} {s:SS} (H:ar o w a s):0<=min (dU s.lv) (fitT (s.kd 0))/\min (dU s.lv) (fitT (s.kd 0))<=Mc:=by obtain⟨-,-,-,-,-,⟨Sj,V',-⟩,-,D',-⟩:=H;obtain⟨t,fp,ht,T0,-,-⟩:=D'.out (p:=0) rfl;have h1:=vd V';have h2:=pJ T0;omega
end
open Go.Lib in
theorem gP {α:Type} {e:TypeId} {n:Nat} {enc:α->List ϗ} {st:TypeId} {by_:Nat} {z:ϗ} (hu:Ψ.underlying st=some (.slice e))(OM:(Ψ.info? e).map (λi=>(i.zero,i.size,i.bytes))=some (some z,n,by_))(hz:z.cells.size=n)(hn:∀x,(enc x).length=n)(h1:∀x,∀u ∈ enc x,u.oneCell'=true)(Kv:0<n)(XO:by_<=1000)
  {w:ϖ} {IA:Array Oper} {rest:List Oper} {o:Oper} {a:Act} {Q:Exit->Act->ϖ->Prop} (Ld:o.guard=none) (sl x:Operand)
  (ho:o.op=.call {callee:=.builtin .append,args:=#[sl,x],argTypes:=#[st,st]})
  (base:Nat) (v:ϗ) (s:List α) (f:α) (B:Nat) (cs:Array ϗ) (KD:cs.toList=enc f) (hs:a.eval sl=v) (hx:a.eval x=ζ B 1 1) (h:ae e n enc w base v s) (hB:ah w B cs e) (Kw:s.length<=1000000) (LQ:base<=w)
  (hk:∀v' w',ae e n enc w' base v' (s++[f])->KO (λx=>some x=v.ownBlock) w w'->(∀x,some x=v'.ownBlock->some x=v.ownBlock\/w.heap.size<=x)->wpList Ψ IA Q rest (a.put o.dst v') w'):wpList Ψ IA Q (o::rest) a w:=by
 refine wpList_plain Ld λK hK=>?_;obtain⟨i,hi,q⟩:=Option.map_eq_some_iff.1 OM;simp only[Prod.mk.injEq] at q;obtain⟨v',w',hr,h2,h3,_,h5⟩:=run_append_own_at (P:=Ψ) w base st o.type e i z n by_ hu hi q.1 q.2.1 q.2.2 hz Kv v s.length (s.flatMap enc) h ⟨B,0,none⟩ 1 1 (enc f) (by rw[hn,Nat.one_mul]) (λj u hj=>by rw[Addr.add_mid,hB.cell,Nat.zero_add,<- Array.getElem?_toList,KD];exact hj) (h1 f) σ1 (by have:(s.length+1)*by_<=(s.length+1)*1000:=Nat.mul_le_mul_left _ XO;omega) LQ
 unfold Oper.wp execOp;simp only[ho,resolve,invoke,builtin,Sem.run_bind,Sem.run_pure,Result.andThen_ok,List.map_toArray,gY,List.map_nil,hs,hx,hr];refine hK _ _ (hk v' w' ?_ ⟨h3.os,h3.tape,h3.output,h3.size,λk hk IX=>h3.block k hk IX⟩ τF);unfold ae;rw[ZL,List.flatMap_append];simpa using h2
theorem tN:(Ψ.info? 52).map (λi=>(i.zero,i.size,i.bytes))=some (some (φ #[Kz,dI,dI,Ky,Ky,Kz,Ky,Kz,eN,eN,eN,eN]),12,64):=by kernel_rfl
theorem BW (p:Pt)(Pb O base:Nat)(op:Int)(l:List EV)(e:EV)(w:ϖ)(hP:ah w Pb #[ι ε op] 3)(pP:p Pb≠6)(hE:cu p w O base l)(hl:l.length<=1000000)(hb:base<=w):Calls Ψ 52 #[φ #[Kz,β e.inn,β e.real,e.at_,e.done,ι ε e.cls,e.pk.id,ι ε e.pk.len,ι ω e.pk.h0,ι ω e.pk.h1,ι ω e.pk.h2,ι ω e.pk.h3],pt Pb,pt O] w λr w'=>r=ϰ (χ #[])/\cu (p.more w 6) w' O base (l++[⟨op,e.inn,e.real,e.at_,e.done,e.cls,e.pk⟩])/\KO (λx=>p x=6) w w':=by
 obtain⟨v,hO,hH,pO,pv⟩:=hE;obtain⟨ao,IM,rfl⟩:=ae.slice hH;obtain⟨n,hn⟩:=Nq l.length;rw[hn] at hO hH hl pv;replace hn:=ag hn;have zP:=hP.size;have zO:=hO.size;have YE:=zO;have zv:∀x,some x=(Value.slice ao n IM).ownBlock->x<w.heap.size:=λx hx=>(ae.own_ge hH x hx.symm).2;have P0:=hP;have O0:=hO;have H0:=hH;have IB:KO (λx=>p x=6) w w:=KO.refl _ _;have cP:=P0.cell;have fP:=P0.frozen;have zP:=P0.size;have cO:=O0.cell;have fO:=O0.frozen;have zO:=O0.size;go_in;go_upto_region 2 with (fail);refine aU w (λv=>Below w w v) (λv=>KO (λx=>p x=6) w v/\ah v (Pb) #[ι ε op] 3/\ah v (O) #[(ζ ao n IM)] 33/\cD v base (ζ ao n IM) l/\ah v w #[ι ε op,β e.inn,β e.real,e.at_,e.done,ι ε e.cls,e.pk.id,ι ε e.pk.len,ι ω e.pk.h0,ι ω e.pk.h1,ι ω e.pk.h2,ι ω e.pk.h3] 52) ρE (λkx=>⟨IB.step0 kx,ρB,ρB,H0.below kx,ρB⟩) ?_;rintro v1 ⟨F',P1,O1,H1,X1⟩;replace cP:=P1.cell;replace fP:=P1.frozen;replace zP:=P1.size;replace cO:=O1.cell;replace fO:=O1.frozen;replace zO:=O1.size;replace cX:=X1.cell;replace fX:=X1.frozen;replace zX:=X1.size;have z1:=F'.size;have zX:=X1.size;have b1:base<=v1:=ρa;go_wp2_with (first|(refine eI 52 _ w #[ι ε op,β e.inn,β e.real,e.at_,e.done,ι ε e.cls,e.pk.id,ι ε e.pk.len,ι ω e.pk.h0,ι ω e.pk.h1,ι ω e.pk.h2,ι ω e.pk.h3] 52 _ rfl rfl ρr (X1.below ρE X1.size) Tryz.underlying52 rfl ρh ?_)|(refine gP Tryz.underlying33 tN rfl (λ_=>rfl) τK ρf ρf rfl (.tmp 6) (.tmp 8) rfl base (ζ ao n IM) l ⟨op,e.inn,e.real,e.at_,e.done,e.cls,e.pk⟩ v1 #[ι ε op,β e.inn,β e.real,e.at_,e.done,ι ε e.cls,e.pk.id,ι ε e.pk.len,ι ω e.pk.h0,ι ω e.pk.h1,ι ω e.pk.h2,ι ω e.pk.h3] rfl ρr ρr (H1.below ρE) ρB κi τB ?_;intro o2 v2 H2 kx Su;replace kx:=kx.of_alloc;have P2:=P1.ko kx (λh=>ae.ne_blk H1 P1 ρf h);have O2:=O1.ko kx (λh=>ae.ne_blk H1 O1 ρf h);have Iz:KO (λx=>p x=6) w v2:=F'.trans kx (by intro y hy h;exact pv y h);have zk2:=Iz.size;replace cP:=P2.cell;replace fP:=P2.frozen;replace zP:=P2.size;replace cO:=O2.cell;replace fO:=O2.frozen;replace zO:=O2.size;have Oj:(l++[(⟨op,e.inn,e.real,e.at_,e.done,e.cls,e.pk⟩:EV)]).length=n+1:=(by rw[ZL,hn.out];rfl);obtain⟨a2,c2,rfl⟩:=ae.slice H2;rw[Oj] at H2 Su;rw[Oj]));go_end0;refine⟨rfl,⟨_,ρB,ae.ko H2 (F:=λx=>x=O) ρK (λx _ hx e=>ae.ne_blk H2 O2 ρf τA),(Pt.more_lt YE).trans pO,λx hx=>?_⟩,(Iz.trans (G:=λx=>x=O) ρK (λx _ e=>by rw[e];exact pO))⟩;rcases Su x hx with g|g
 ·exact(Pt.more_lt (zv x g)).trans (pv x g)
 ·exact Pt.more_ge (ZK F'.size (by first|omega|(simp at g;omega)))
theorem FN (p:Pt)(z:SA)(IA:Int)(N:Nat)(y:YS)(w:ϖ)(H:aD p w z IA N y)(hc:0<=y.clk/\y.clk<=4611686018427387904)(ht:0<=y.til/\y.til<=4611686019501129728):
  CB 89 #[pt z.Y] w (CQ y.clk y.til y.due):=by
 obtain⟨HY,pY,⟨u,b,q,HK,-⟩,pK,-,-,o,HS,-⟩:=H;have hr:=HS.due_rng;obtain⟨d,hd⟩:=Nq y.due;have Li:min (dU y.s.lv) (fitT (y.s.kd 0))=d:=hd;rw[Li] at hr;rw[hd];have cd:=λ(v:ϖ) (h:ar o v z.a y.s)=>Li ▸ Ea o z.a y.s v h;change Hid _ at hd Li;have cd:=ag cd;have b00:KO (λ_=>False) w w:=KO.refl _ _;have IB:=b00;have Y0:ah w z.Y #[pt z.a.S,pt z.K,pt z.B,pt z.S,y.clk,ι ε IA] 129:=HY;have K0:ah w z.K #[u,b,q,ι ε y.s.T,y.til] 160:=HK;have S0:=HS;clear HY HK HS b00;have Rr:=θ2 Y0.r K0.r;unfold CB;go_in;go_wp2_with fail;refine bS (θ4 IB Y0 K0 S0) ?_;clear Rr;rintro v1 ⟨F',Y1,K1,S1⟩ Rr;have qY:=af Y1;have qK:=af K1;refine Wq ?_
 repeat (go_big_quiet_step ((first
   | (go_at_call 133;(with_reducible exact an (CA z.K u b q y.s.T y.til _ (K1.below (ZW _ _ _) K1.size))))
   | (go_at_call 134;(with_reducible exact bT (cd.out _ (S1.below (ZW _ _ _)))))
   | (go_at_call 132;(with_reducible exact bT (FB y.clk y.til d _ ρa ρa ρa))))))
 refine bF (θ4 Y1 K1 S1 F') ?_;clear Rr;rintro v2 ⟨Y2,K2,S2,Iz⟩ Rr;clear qY qK Y1 K1 S1;go_wp2;go_ret;exact⟨rfl,(Iz.step0 ρE).toBelow⟩
theorem SS.pks_nonneg (s:SS):0<=s.pks:=by unfold SS.pks;exact eM λj _=>by omega
theorem KO.of_kept {w0 w w':ϖ} {L:Nat} (hb:Below w0 w0 w)(h:bE L w w'):KO (λx=>x=L) w0 w':=
 (KO.of_below hb).trans ⟨h.1.os,h.1.tape,h.1.output,h.1.size,λk hk hF=>h.2 k hk hF⟩ (λ_ _ e=>e)
theorem BS (p:Pt)(z:SA)(IA:Int)(N:Nat)(y:YS)(Pb O base:Nat)(op:Int)(l Oe:List EV)(w:ϖ)(H:aD p w z IA N y)(h:y.Ok0)(hP:ah w Pb #[ι ε op] 3)(pP:p Pb=0)(E:cu p w O base l)(LA:y.ev=Oe++l)(hl:l.length<=1000000)(hN:N<=1000000)(hb:base<=w):Calls Ψ 88 #[pt z.Y,y.clk,(.func (.func 52) #[] #[pt Pb,pt O])] w λe w'=>e=ϰ (χ #[])/\∃p' y' l',eX op y y'/\(∀x,x<w.heap.size->p' x=p x)/\aD p' w' z IA N y'/\cu p' w' O base l'/\y'.ev=Oe++l'/\l'.length<=l.length+1/\KO (λx=>p x≠0) w w':=by
 have H0:=H;obtain⟨HY,pY,⟨u,b,q,HK,nK⟩,pK,-,-,o,HS,ho⟩:=H0;have h1:=h.clk;have h2:=h.tt;have h3:=h.til;have h4:=h.inv.wf;have h5:=h.num;obtain⟨c,hc⟩:=Nq (decide (y.til<=y.clk));have hc2:=hc;have Rr:=HY.r;go_in;go_wp2_with fail;refine(wN z.K u b q y.s.T y.til _ HK y.clk c hc).mono ?_;rintro e v1 ⟨rfl,rfl⟩;rcases c with _|_
 ·have hb:y.clk<y.til:=by simpa using hc2
  go_wp2_with fail;refine ZO (results_none rfl _ _ _) rfl ?_;exact⟨rfl,p,y,l,.busy hb,λ_ _=>rfl,H.below ρE,E.below ρE,LA,by omega,KO.of_below ρE⟩
 have hb:y.til<=y.clk:=by simpa using hc2
 change Hid _ at hc hc2;go_wp2_with fail;refine(Cs o z.a y.s y.clk _ HS h4 ⟨by omega,by omega⟩ (λi c hc=>by have:=h5.tot i c hc;have:=h5.acc;have:=h5.bys_nonneg h.inv;omega) (λi x Jq=>?_)).mono ?_
 ·obtain⟨c',xs',p',r',e1,e2,e3,e4,e5⟩:=h.told.1.chosen Jq;exact⟨c',xs',p',r',e1,e2,e3,e4.up,by have:=e4.len;have:=h.inv.lok.len;omega,(ZD.1 e4.nd).2,e5⟩
 rintro e v1 (⟨i,x,pk,r,c,xs,Jq,hcf,hq,hu,rfl,o',HS',eo,kx⟩|⟨Jq,rfl,o',HS',eo,kx⟩)
 rotate_left
 ·have H1:=H.setS (ZR _) ho kx HS' eo rfl (ZJ _);have zk:=kx.size;have F':KO (λx=>p x≠0) w v1:=kx.mono (λx _ hx=>by have:=(ho x hx).2;omega);have E1:cu (p.more w 5) v1 O base l:=(E.more _ 5 (ZR _)).ko kx σU;go_wp2_with fail;refine ZO (results_none rfl _ _ _) rfl ?_;exact⟨rfl,_,_,l,.idle hb Jq,λx hx=>Pt.more_lt hx,H1.below ρE,E1.below ρE,LA,by omega,F'.step0 ρE⟩
 obtain⟨T0,Wb⟩:=Nq (y.s.take y.clk i x xs);obtain⟨Pth,JK,Tk,I1,N1,KE,htl⟩:=h.pick Jq hcf hq hu;rw[Wb] at Tk I1 N1 HS';have hpks:=(Tk.bys h5 ((fg h.inv.lok).2 ⟨c,hcf⟩) hq).2;have LY:=SS.pks_nonneg T0;have H1:=H.setS (ZR _) ho kx HS' eo Tk.T ρa;have zk:=kx.size;have F':KO (λx=>p x≠0) w v1:=kx.mono (λx _ hx=>by have:=(ho x hx).2;omega);have E1:cu (p.more w 5) v1 O base l:=(E.more _ 5 (ZR _)).ko kx σU;have P1:=hP.ko kx (λhm=>by have:=(ho _ hm).2;omega);have K1:ah v1 z.K #[u,b,q,ι ε y.s.T,y.til] 160:=HK.ko kx (λhm=>by have:=(ho _ hm).2;omega);have Y1:ah v1 z.Y #[pt z.a.S,pt z.K,pt z.B,pt z.S,y.clk,ι ε IA] 129:=H1.1;have Ss:=Y1.r;go_upto_region 3 with (fail);refine aU v1 (λv=>Below v1 v1 v) (λv=>Below v1 v1 v/\ah v v1 #[ι ε i,pk.id,ι ε pk.len,ι ω pk.h0,ι ω pk.h1,ι ω pk.h2,ι ω pk.h3,β x] 253) ρE (λkx=>⟨kx,ρB⟩) ?_;rintro v2 ⟨KQ,X2⟩;obtain⟨H2,E2,P2,K2,Y2,Iz⟩:=Mw KQ (θ6 H1 E1 P1 K1 Y1 F');replace Ss:=θ2 Y2.r X2.r;obtain⟨y0,hy0⟩:=Nq (y.s.T*pk.len);rw[hy0] at htl;have hy1:pk.len*y.s.T=y0:=by rw[Int.mul_comm];exact hy0
 change Hid _ at hy0 hy1;have hlm:=h5.lm;have nu:0<=u/\u<=1000000:=ρa;go_region_held_law (λw'=>(∀j,w'.cell? ⟨z.Y,j,none⟩=#[pt z.a.S,pt z.K,pt z.B,pt z.S,ι υ y.clk,ι ε IA][j]?)/\(∀j,w'.cell? ⟨v1,j,none⟩=#[ι ε i,ι υ pk.id,ι ε pk.len,ι ω pk.h0,ι ω pk.h1,ι ω pk.h2,ι ω pk.h3,β x][j]?)) (first|(with_reducible exact⟨ah.cell Y3,ah.cell X3⟩)|go_keep|exact⟨ah.cell (ah.drew Y2),ah.cell (ah.drew X2)⟩) ((go_at_call 130;refine(wO pk.id pk.len pk.h0 pk.h1 pk.h2 pk.h3 y.clk z.K u b q y.s.T y.til _ (ah.drew K2) ρa ρa hb ρa ρa ρa y0 hy1.out ρa).mono ?_;rintro e v3 ⟨rfl,K3,kk⟩;have NT:=KO.of_kept (w0:=v2) ρE kk;have Y3:ah v3 z.Y #[pt z.a.S,pt z.K,pt z.B,pt z.S,y.clk,ι ε IA] 129:=Y2.ko NT (dV Y2 K2 ρf);have X3:=X2.ko NT (dV X2 K2 ρf)));go_upto_region 4 with (fail);have K3':ah v3 z.K (Et (u+1) (b+pk.len) (q+y0) T0.T (y.clk+y0)) 160:=by rw[Tk.T];exact K3
 have H3:=H2.setK NT K3' ⟨by omega,by show u+1+T0.pks<=_;omega,by omega,by omega,by omega,by omega⟩;have pK2:(p.more w 5) z.K=2:=H2.2.2.2.1;have E3:=E2.ko NT σq;have P3:=P2.ko NT (dV P2 K2 ρf);have ID:=Iz.trans NT τz;obtain⟨p5,hp5⟩:=Nq (p.more w 5);rw[hp5] at H3 E3;have q5:∀x,w.heap.size<=x->p5 x=5:=λx hx=>by rw[<- hp5];exact Pt.more_ge hx
 have q0:∀x,x<w.heap.size->p5 x=p x:=λx hx=>by rw[<- hp5];exact Pt.more_lt hx
 obtain⟨fs,Q3,Qj⟩:=H3.2.2.2.2.2.1;have Vg:∀x,fs x->x<v3.heap.size:=by obtain⟨_,_,_,_,_,_,_,_,_,_,_,_,_,hs⟩:=Q3;exact hs
 have zP3:=P3.size;have zY3:=Y3.size;have zX3:=X3.size;have zw3:=ID.size;clear H1 E1 P1 K1 Y1 H2 E2 P2 K2 Y2 X2 K3 K3' kk NT KQ F' kx;replace Ss:=θ2 Y3.r X3.r;go_region_held_law (λw'=>(∀j,w'.cell? ⟨z.Y,j,none⟩=#[pt z.a.S,pt z.K,pt z.B,pt z.S,ι υ y.clk,ι ε IA][j]?)/\(∀j,w'.cell? ⟨v1,j,none⟩=#[ι ε i,ι υ pk.id,ι ε pk.len,ι ω pk.h0,ι ω pk.h1,ι ω pk.h2,ι ω pk.h3,β x][j]?)) (first|(with_reducible exact⟨ah.cell Y4,ah.cell X4⟩)|go_keep|exact⟨ah.cell (ah.drew Y3),ah.cell (ah.drew X3)⟩) ((go_at_call 131;(refine(Dk z.S N fs i (y.clk+y0) pk.len x _ (Q3.below ρE)).mono ?_;rintro e v4 ⟨⟨ke,rfl⟩,fs',hfs2,Q4,kq⟩;have Pr:KO fs v3 v4:=(KO.of_below (F:=fs) ρE).trans kq (λ_ _ h=>h);have Y4:ah v4 z.Y #[pt z.a.S,pt z.K,pt z.B,pt z.S,y.clk,ι ε IA] 129:=Y3.ko Pr (λh=>by have:=Qj _ h;have:=H3.2.1;omega);have X4:=X3.ko Pr (λh=>by have:=Qj _ h;have:=q5 _ zk;omega))));go_upto_region 5 with (fail);have z34:=Pr.size;have H4:=H3.setQ Qj Pr Q4 (ZR _) hfs2 Vg;have E4:=(E3.more v3 4 (ZR _)).ko Pr (λx hx hf=>by rw[Pt.more_lt (Vg x hf)] at hx;have:=Qj x hf;omega);have pPb:p5 Pb=0:=(q0 _ hP.size).trans pP;have P4:=P3.ko Pr τJ;have IC:=ID.trans Pr (λx hx h=>by have:=Qj x h;rw[q0 x hx] at this;omega);obtain⟨p4,hp4⟩:=Nq (p5.more v3 4);rw[hp4] at H4 E4;have q4:∀x,x<v3.heap.size->p4 x=p5 x:=λx hx=>by rw[<- hp4];exact Pt.more_lt hx
 clear H3 E3 P3 Y3 X3 Q3 kq Pr Q4;replace Ss:=θ2 Y4.r X4.r;have XL:=eX.pick (op:=op) hb Jq hcf hq hu;rw[Wb,hy0.out] at XL;have zw4:=IC.size;go_wp2_with fail;refine(BW p4 Pb O base op l ⟨0,false,x,y.clk,y.clk+y0,i,pk⟩ v4 P4 (by rw[q4 _ zP3];omega) E4 hl ρa).mono ?_;rintro e5 v5 ⟨rfl,E5,Vu⟩;have H5:=(H4.more v4 6 (ZR _)).ko Vu (λx hx=>by unfold Pt.more;split;exact .inr hx;exact .inr rfl);go_wp2_with fail;go_end0;refine⟨rfl,_,_,_,XL,λx hx=>?_,H5.below ρE,E5.below ρE,?_,by simp,(IC.trans Vu (λx hx e=>?_)).step0 ρE⟩
 ·rw[Pt.more_lt ρa,q4 x ρa,q0 x hx]
 ·rw[LA,List.append_assoc]
 ·have e:p4 x=6:=e;rw[q4 x ρa,q0 x hx] at e;omega
theorem cu.len {p:Pt} {w:ϖ} {O base:Nat} {l:List EV} (h:cu p w O base l):lenOf ((w.cell? ⟨O,0,none⟩).getD undef)=l.length:=by obtain⟨v,h1,h2,_⟩:=h;obtain⟨a,c,rfl⟩:=ae.slice h2;rw[h1.cell];rfl
theorem eX.at_next {op stop:Int} {y t:YS} (h:y.Ok)(hs:stop<=4611686018427387904)(NE:y.next<=stop)(hp:eX op {y with clk:=y.next} t):t.Ok/\t.clk=y.next/\t.ev.length=y.ev.length+1/\t.s.pks+1=y.s.pks:=by
 have ha:=h.at_next hs NE;obtain⟨g1,g2,_⟩:=hp.ok ha;refine⟨g1,g2,?_⟩;cases hp with
 | busy hb=>have hb:y.next<y.til:=hb;unfold YS.next at hb;omega
 | idle hb Jq=>have:=ha.told.1.idle ha.clk.2.2 Jq;have:y.next<y.due:=this;unfold YS.next at this;omega
 | @pick i x c xs p r hb Jq hc hq hu=>obtain⟨_,_,T,_⟩:=ha.pick Jq hc hq hu;have:=(T.bys ha.num ((fg ha.inv.lok).2 ⟨c,hc⟩) hq).2;exact⟨by simp,this.symm⟩
theorem yI (p:Pt)(z:SA)(IA:Int)(N:Nat)(y:YS)(Pb O base:Nat)(op n:Int)(l Oe:List EV)(w:ϖ)(H:aD p w z IA N y)(h:y.Ok)(hP:ah w Pb #[ι ε op] 3)(pP:p Pb=0)(E:cu p w O base l)(LA:y.ev=Oe++l)(hl:l.length+N<=1000000)(hb:base<=w)(hn:aq n):Calls Ψ 56 #[pt z.Y,n,(.func (.func 52) #[] #[pt Pb,pt O])] w λe w'=>∃a p' y' l',e=ϰ (φ #[ι ε a,Kz,Kz])/\jX op y y'/\(∀x,x<w.heap.size->p' x=p x)/\aD p' w' z IA N y'/\cu p' w' O base l'/\y'.ev=Oe++l'/\l'.length<=l.length+N/\KO (λx=>p x≠0) w w'/\y'.clk=(if n<=4611686018427387904 - y.clk then y.clk+n else y.clk)/\(n<=4611686018427387904 - y.clk->bP op (y.clk+n) y y'):=by
 have h1:=h.clk;have h3:=h.til;obtain⟨ck,Ts⟩:=Nq (if n<=4611686018427387904 - y.clk then y.clk+n else y.clk);rw[Ts];replace Ts:=ag Ts;have Vm:0<=y.s.pks/\y.s.pks<=N:=by obtain⟨_,_,⟨_,_,_,_,h4⟩,_⟩:=H;have:=SS.pks_nonneg y.s;omega
 have Y0:=H.1;have Rr:=Y0.r;by_cases c1:4611686018427387904 - y.clk<n
 ·have d1:=ZT c1;go_in;go_wp2_with fail;refine ZO (bJ w #[ι ε 27,Kz,Kz] 93 _ _ _ rfl ρr ρB Tryz.underlying93 rfl ρh) rfl ?_;exact⟨27,p,y,l,rfl,.nothing,λ_ _=>rfl,H.below ρE,E.below ρE,LA,by omega,KO.of_below ρE,by rw[<- Ts.out,ZI ρa],λh=>ax h ρa⟩
 have d1:=ZF c1;obtain⟨st,JY⟩:=Nq (y.clk+n);have Ja:y.clk<=st/\st<=4611686018427387904:=ρa;go_in;go_upto_region 4 with (fail);refine aU w (λv=>Below w w v) (λv=>Below w w v/\ah v w #[Kz,Kz,Kz] 93) ρE (λkx=>⟨kx,ρB⟩) ?_;rintro v1 ⟨k1,R1⟩;have p0:∀x,x<w.heap.size->(p.more w 0) x=p x:=λx hx=>Pt.more_lt hx;have H1:=(H.more w 0 (ZR _)).below k1;have E1:=(E.more w 0 (ZR _)).below k1;have F':KO (λx=>p x≠0) w v1:=KO.of_below k1;have Re:(p.more w 0) w.heap.size=0:=Pt.more_ge (ZR _);clear Y0;have zPb:=hP.size;go_loopw [] (λwr=>∃(p':Pt) (y':YS) (l':List EV),aD p' wr z IA N y'/\y'.Ok/\cu p' wr O base l'/\y'.ev=Oe++l'/\(l'.length:Int)+y'.s.pks=l.length+y.s.pks/\(∀t,bP op st y' t->bP op st y t)/\y'.clk<=st/\(∀x,x<w.heap.size->p' x=p x)/\ah wr w #[Kz,Kz,Kz] 93/\p' w.heap.size=0/\KO (λx=>p x≠0) w wr) (λwr=>(l.length+N) - lenOf ((wr.cell? ⟨O,0,none⟩).getD undef));case atStart=>exact⟨_,y,l,H1,h,E1,LA,rfl,λ_ ht=>ht,Ja.1,p0,R1,Re,F'⟩
 case round=>
  obtain⟨p',y',l',H0,h0,E0,hev',hsum,hR,hst',q0,R0,pR0,IB⟩:=hrel;have zw:=IB.size;clear H1 E1 F' R1 Re p0 k1;have g1:=h0.clk;have g3:=h0.til;have hpk':=SS.pks_nonneg y'.s;obtain⟨nx,MO⟩:=Nq (CQ y'.clk y'.til y'.due);have cN:=ag (FN p' z IA N y' wr H0 g1.2 g3);rw[MO] at cN;have Y0:=H0.1;have zR:=R0.size;have m0:=E0.len;go_wp2_with fail;refine cN.out.mono ?_;rintro e v1 ⟨rfl,kx⟩;obtain⟨H1,E1,R1,F',Y1⟩:=Mw kx (θ5 H0 E0 R0 IB Y0);have z1:=kx.size;clear H0 E0 R0 IB Y0 cN kx;have Ss:=Y1.r;have cR:=R1.cell;have fR:=R1.frozen;have zR1:=R1.size;have nYR:z.Y≠w:=λe=>by have:=H1.2.1;rw[e,pR0] at this;cases this
  by_cases c2:st<nx
  ·have d2:=ZT c2;have hfar:st<y'.next:=by rw[<- MO] at c2;unfold CQ at c2;unfold YS.next;omega
   go_wp2_with fail;refine ZO (v:=φ #[Kz,Kz,Kz]) (by simp[results,Tryz.results56,go_sem,cR]) rfl ?_;have H2:=H1.setClk (w':=v1.setCell ⟨z.Y,4,none⟩ st) (clk:=st) (ops':=IA) ρK ρB;have E2:cu p' (v1.setCell ⟨z.Y,4,none⟩ st) O base l':=E1.ko (F:=λx=>x=z.Y) ρK (λx hx e=>by have:=H1.2.1;rw[e] at hx;omega);have Iz:KO (λx=>p x≠0) w (v1.setCell ⟨z.Y,4,none⟩ st):=F'.trans (G:=λx=>x=z.Y) ρK (λx _ e=>by have:=H.2.1;rw[e];omega);exact⟨0,p',_,l',rfl,.adv Ja.1 Ja.2 (hR _ (.done hfar)),q0,H2.ko (F:=λx=>x=w.heap.size) ρK (λx e=>by rw[e];exact .inl pR0),E2.ko (F:=λx=>x=w.heap.size) ρK σq,hev',by omega,Iz.trans (G:=λx=>x=w.heap.size) ρK (λx hx e=>ax e ρa),by show st=_;rw[<- Ts.out,ZP ρa];omega,λ_=>by rw[JY];exact hR _ (.done hfar)⟩
  have d2:=ZF c2;have hnext:nx=y'.next:=by rw[<- MO] at c2 ⊢;unfold CQ at c2 ⊢;unfold YS.next;omega
  have NE:y'.next<=st:=ρa;have ha:=h0.at_next Ja.2 NE;have Pv:=hP.ko F' (λhx=>hx pP);subst hnext;have nYP:Pb≠z.Y:=λe=>by have:=H.2.1;rw[<- e,pP] at this;cases this
  have Vn:=H1.2.1;replace MO:=ag MO;go_wp2_with fail;have H2:=H1.setClk (w':=v1.setCell ⟨z.Y,4,none⟩ y'.next) (clk:=y'.next) (ops':=IA) ρK ρB;have E2:cu p' (v1.setCell ⟨z.Y,4,none⟩ y'.next) O base l':=E1.ko (F:=λx=>x=z.Y) ρK σq;have Iz:KO (λx=>p x≠0) w (v1.setCell ⟨z.Y,4,none⟩ y'.next):=F'.trans (G:=λx=>x=z.Y) ρK (λx _ e=>by have:=H.2.1;rw[e];omega);refine(BS p' z IA N {y' with clk:=y'.next} Pb O base op l' Oe _ H2 ha (Pv.ko (F:=λx=>x=z.Y) ρK nYP) ((q0 _ zPb).trans pP) E2 hev' ρa ρa ρJ).mono ?_;rintro e v2 ⟨rfl,p2,y2,l2,hPu,q2,H3,E3,Um,Oj,k3⟩;obtain⟨Jo,Ts,hel,hpk2⟩:=hPu.at_next h0 Ja.2 NE;have Lw:l2.length=l'.length+1:=by have:=ZG List.length Um;have h9:=ZG List.length hev';rw[ZL] at this h9;omega
  have zv2:=k3.size;have zs:(v1.setCell ⟨z.Y,4,none⟩ y'.next).heap.size=v1:=ρp;have m1:=E3.len;have NN:∀x,x<w.heap.size->p2 x=p x:=λx hx=>(q2 x ρa).trans (q0 x hx);have WS:p2 w.heap.size=0:=(q2 _ ρa).trans pR0;have R3:=(R1.ko (F:=λx=>x=z.Y) (w':=v1.setCell ⟨z.Y,4,none⟩ y'.next) ρK (λe=>nYR e.symm)).ko k3 (λh=>h pR0);have IC:KO (λx=>p x≠0) w v2:=Iz.trans k3 (λx hx h=>by rw[<- q0 x hx];exact h);go_wp2;go_roundw;case rel=>exact⟨p2,y2,l2,H3,Jo,E3,Um,by omega,λt ht=>hR t (.next NE hPu ht),by omega,NN,R3,WS,IC⟩
  case measure=>rw[m0,m1];have:=SS.pks_nonneg y2.s;omega
theorem SS.Inv.puts {s:SS} {i:Int} {c:CD} {xs:List Int} (h:s.Inv)(hc:fc s.L i=some c)(hl:c.lf=true)(hq:(s.e i).q=[])(hs:dz c=true)(P:iU s.L i xs):bM s.L i xs/\xs≠[]/\xs.length<=1000/\s.A.is i=false:=by
 refine⟨P.sh τv,P.ne,P.len,?_⟩;cases e:s.A.is i with
 | false=>rfl
 | true=>
  exfalso;rcases dX.1 e with g|g
  ·obtain⟨d,_,_,_,hd⟩:=(h.on i).1 g;exact hd hq
  ·exact g (h.leaf hc hl)
theorem mC.way {L:List CD} (h:mC L)(i:Int):∃xs:List Int,xs.Nodup/\∀c,fc L i=some c->iU L i xs:=by
 cases hc:fc L i with
 | none=>exact⟨[],by simp,λc e=>by cases e⟩
 | some c=>obtain⟨xs,P⟩:=h.path hc;exact⟨xs,(ZD.1 P.nd).2,λ_ _=>P⟩
def Cy (tb:List RL × List FW × List Int)(pk:PK):Int:=(rW tb.1 ((bN tb.2.1 ⟨pk.h0,pk.h1,pk.h2,pk.h3⟩ 0).map λp=>p.2.p) ⟨pk.h0,pk.h1,pk.h2,pk.h3⟩ tb.2.2).getD 0
def Ab (tb:List RL × List FW × List Int)(pk:PK):Int:=if (rW tb.1 ((bN tb.2.1 ⟨pk.h0,pk.h1,pk.h2,pk.h3⟩ 0).map λp=>p.2.p) ⟨pk.h0,pk.h1,pk.h2,pk.h3⟩ tb.2.2).isSome then 0 else 31
def pp (op:Int)(y:YS)(i:Int)(pk:PK)(y':YS):Prop:=∃xs n s',(∀c,fc y.s.L i=some c->iU y.s.L i xs)/\y.s.put y.clk i pk xs=(n,s')/\((n≠0/\y'={y with s:=s'})\/(n=0/\eX op {y with s:=s',ev:=y.ev++[⟨op,true,false,y.clk,0,i,pk⟩]} y'))
theorem Bo (p:Pt)(z:SA)(IA:Int)(N:Nat)(y:YS)(Pb O base:Nat)(op:Int)(pk:PK)(l Oe:List EV)(w:ϖ)(H:aD p w z IA N y)(h:y.Ok)(hP:ah w Pb #[ι ε op] 3)(pP:p Pb=0)(E:cu p w O base l)(LA:y.ev=Oe++l)(hl:l.length+N<=900000)(hb:base<=w):Calls Ψ 55 #[pt z.Y,φ (gG pk.id pk.len pk.h0 pk.h1 pk.h2 pk.h3),(.func (.func 52) #[] #[pt Pb,pt O])] w λe w'=>∃a c p' y' l',e=ϰ (φ #[ι ε a,Kz,ι ε c])/\jX op y y'/\(∀x,x<w.heap.size->p' x=p x)/\aD p' w' z IA (N+2) y'/\cu p' w' O base l'/\y'.ev=Oe++l'/\l'.length<=l.length+2/\KO (λx=>p x≠0) w w'/\y'.clk=y.clk/\(Ab z.tb pk=0->pp op y (Cy z.tb pk) pk y'):=by
 have H0:=H;obtain⟨HY,pY,-,-,⟨ft,TA,Wj⟩,-⟩:=H0;obtain⟨rs,ex,ms,Vp⟩:∃rs ex ms,z.tb=(rs,ex,ms):=⟨_,_,_,rfl⟩;simp only[Vp] at TA;have h1:=h.clk;obtain⟨ci,MN⟩:=Nq ((rW rs ((bN ex ⟨pk.h0,pk.h1,pk.h2,pk.h3⟩ 0).map λp=>p.2.p) ⟨pk.h0,pk.h1,pk.h2,pk.h3⟩ ms).getD 0);obtain⟨er,her⟩:=Nq (if (rW rs ((bN ex ⟨pk.h0,pk.h1,pk.h2,pk.h3⟩ 0).map λp=>p.2.p) ⟨pk.h0,pk.h1,pk.h2,pk.h3⟩ ms).isSome then (0:Int) else 31);have cF:=λ(v:ϖ) (hv:bI v z.B rs ex ms ft)=>CP z.B rs ex ms ft ⟨pk.h0,pk.h1,pk.h2,pk.h3⟩ v hv;rw[MN,her] at cF;have hI:Cy z.tb pk=ci:=by unfold Cy;simp only[Vp];exact MN
 have hE:Ab z.tb pk=er:=by unfold Ab;simp only[Vp];exact her
 change Hid _ at hI hE;clear MN her Vp;replace cF:=ag cF;have zY0:=HY.size;have zP0:=hP.size;go_in;go_upto_region 1 with (fail);refine aU w (λv=>Below w w v) (λv=>Below w w v/\ah v w (gG pk.id pk.len pk.h0 pk.h1 pk.h2 pk.h3) 50/\ah v (w+1) #[Kz,Kz,Kz] 93) ρE (λkx=>⟨kx,ρB,ρB⟩) ?_;rintro v1 ⟨k1,X1,R1⟩;have H1:=(H.more w 0 (ZR _)).below k1;have E1:=(E.more w 0 (ZR _)).below k1;have F':KO (λx=>p x≠0) w v1:=KO.of_below k1;have P1:=hP.below k1 zP0;have T1:=TA.below k1;obtain⟨p1,J9⟩:=Nq (p.more w 0);rw[J9] at H1 E1;have q1:∀x,x<w.heap.size->p1 x=p x:=λx hx=>by rw[<- J9];exact Pt.more_lt hx
 have r1:∀x,w.heap.size<=x->p1 x=0:=λx hx=>by rw[<- J9];exact Pt.more_ge hx
 clear J9;have z1:=k1.size;have zX1:=X1.size;have zR1:=R1.size;have Y1:=H1.1;have rY:=Y1.r;have rX:=X1.r;go_region_held_law (λw'=>(∀j,w'.cell? ⟨z.Y,j,none⟩=#[pt z.a.S,pt z.K,pt z.B,pt z.S,ι υ y.clk,ι ε IA][j]?)/\(∀j,w'.cell? ⟨w,j,none⟩=(gG pk.id pk.len pk.h0 pk.h1 pk.h2 pk.h3)[j]?)) (first|(with_reducible exact⟨ah.cell Y2,ah.cell X2⟩)|go_keep|exact⟨ah.cell (ah.drew Y1),ah.cell (ah.drew X1)⟩) ((go_at_call 85;refine(cF.out _ (T1.below ρE)).mono ?_;rintro e v2 ⟨rfl,kx⟩;have KQ:Below v1 v1 v2:=Below.trans ρE kx;have Y2:=Y1.below KQ rY.2.2;have X2:=X1.below KQ rX.2.2));go_upto_region 2 with (fail);obtain⟨H2,E2⟩:=Mw KQ (θ2 H1 E1);have R2:=R1.below KQ zR1;obtain⟨P2,Iz⟩:=Mw KQ (θ2 P1 F');have z2:=KQ.size;have zX2:=X2.size;have zR2:=R2.size;clear rY rX H1 E1 R1 P1 T1 X1 Y1 F' cF TA KQ k1;have rY:=Y2.r;have rX:=X2.r;by_cases he:er=0
 rotate_left
 ·have d1:decide (er≠0)=true:=ZT he;have cR:=R2.cell;have fR:=R2.frozen;go_wp2_with fail;refine ZO (bJ (w+1) #[ι ε er,Kz,Kz] 93 _ _ _ rfl ρr ρB Tryz.underlying93 rfl ρh) rfl ?_;exact⟨er,0,p1,y,l,rfl,.nothing,q1,(H2.ko (F:=λx=>x=w.heap.size+1) ρK (λx e=>by rw[e];exact .inl (r1 _ ρa))).mono ρa,E2.ko (F:=λx=>x=w.heap.size+1) ρK (λx hx e=>by rw[e] at hx;have:=r1 (w+1) ρa;omega),LA,by omega,Iz.trans (G:=λx=>x=w.heap.size+1) ρK (λx hx e=>ax e ρa),rfl,λh=>ax (hE.out.symm.trans h) he⟩
 subst he;obtain⟨o,HS,ho⟩:=H2.sched;obtain⟨xs,Lx,Sm⟩:=h.inv.lok.way ci;have h4:=h.inv.wf;have h5:=h.num;have h6:=h5.lm;have h7:=h5.acc;have h8:=h5.vt h.inv;have pY2:=H2.2.1;go_upto_region 4 with (fail);go_region_held_law (λw'=>(∀j,w'.cell? ⟨z.Y,j,none⟩=#[pt z.a.S,pt z.K,pt z.B,pt z.S,ι υ y.clk,ι ε IA][j]?)/\(∀j,w'.cell? ⟨w,j,none⟩=(gG pk.id pk.len pk.h0 pk.h1 pk.h2 pk.h3)[j]?)) (first|(with_reducible exact⟨ah.cell Y3,ah.cell X3⟩)|go_keep|exact⟨ah.cell (ah.drew Y2),ah.cell (ah.drew X2)⟩) ((go_at_call 86;refine(Ee o z.a y.s y.clk ci pk xs _ (HS.below ρE) h4 ⟨by omega,by omega⟩ ⟨by omega,by omega⟩ h6.2 h7 h8 (λc hc hl hq hs=>h.inv.puts hc hl hq hs (Sm c hc))).mono ?_;rintro e v3 ⟨n,s',rfl,Js,o',YM,eo,kx⟩;have NT:KO (λx=>(o x).mine) v2 v3:=(KO.of_below ρE).trans kx (λ_ _ h=>h);have Y3:ah v3 z.Y #[pt z.a.S,pt z.K,pt z.B,pt z.S,y.clk,ι ε IA] 129:=Y2.ko NT (λh=>by have:=(ho _ h).2;omega);have X3:=X2.ko NT (λh=>by have:=(ho _ h).2;have:=r1 w ρa;omega)));go_upto_region 5 with (fail);have z3:=NT.size;have R3:=R2.ko NT (λh=>by have:=(ho _ h).2;have:=r1 (w+1) ρa;omega);have P3:=P2.ko NT (λh=>by have:=(ho _ h).2;have:=q1 _ zP0;omega);have ID:KO (λx=>p x≠0) w v3:=Iz.trans NT (λx hx h=>by have:=(ho _ h).2;have:=q1 _ hx;omega);have E3:=(E2.more v2 5 (ZR _)).ko NT σU;have XS:=cf h.inv.ec Lx Js;obtain⟨p3,Vj⟩:=Nq (p1.more v2 5);rw[Vj] at E3;have q3:∀x,x<v2.heap.size->p3 x=p1 x:=λx hx=>by rw[<- Vj];exact Pt.more_lt hx
 have pX3:p3 w.heap.size=0:=(q3 _ zX2).trans (r1 _ ρa);have pR3:p3 (w+1)=0:=(q3 _ zR2).trans (r1 _ ρa);have q30:∀x,x<w.heap.size->p3 x=p x:=λx hx=>(q3 x ρa).trans (q1 x hx);clear rY rX;have rY:=Y3.r;have rX:=X3.r;have zR3:=R3.size;by_cases hn:n=0
 rotate_left
 ·have Ja:s'.T=y.s.T/\s'.pks=y.s.pks:=by
   rcases XS with ⟨_,rfl|⟨rfl,_⟩⟩|⟨g,_⟩
   ·exact⟨rfl,rfl⟩
   ·exact⟨rfl,rfl⟩
   ·exact ax g hn
  have H3:=H2.setS (ZR _) ho NT YM eo Ja.1 ρa;rw[Vj] at H3;clear XS;have d1:decide (n≠0)=true:=ZT hn;have cR:=R3.cell;have fR:=R3.frozen;go_wp2_with fail;refine ZO (bJ (w+1) #[ι ε n,Kz,ι ε ci] 93 _ _ _ rfl ρr ρB Tryz.underlying93 rfl ρh) rfl ?_;exact⟨n,ci,p3,_,l,rfl,.refused Lx Js hn,q30,(H3.ko (F:=λx=>x=w.heap.size+1) ρK (λx e=>by rw[e];exact .inl pR3)).mono ρa,E3.ko (F:=λx=>x=w.heap.size+1) ρK σq,LA,by omega,ID.trans (G:=λx=>x=w.heap.size+1) ρK (λx hx e=>ax e ρa),rfl,λ_=>by rw[hI.out];exact⟨xs,n,s',Sm,Js,.inl ⟨hn,rfl⟩⟩⟩
 subst hn;obtain⟨c,F⟩:∃c,gN y.s s' y.clk ci xs pk c:=by rcases XS with ⟨g,_⟩|⟨_,c,F⟩;exact ax rfl g;exact⟨c,F⟩
 have hpks:=(F.bys h5 ((fg h.inv.lok).2 ⟨c,F.cls.1⟩)).2;have H3:=H2.setS (Nat.le_succ N) ho NT YM eo F.T (by rw[hpks];omega);rw[Vj] at H3;clear XS HS YM kx NT H2 E2 R2 P2 X2 Y2 ho eo;obtain⟨fs,Q3,Qj⟩:=H3.2.2.2.2.2.1;have Vg:∀x,fs x->x<v3.heap.size:=by obtain⟨_,_,_,_,_,_,_,_,_,_,_,_,_,hs⟩:=Q3;exact hs
 have pY3:=H3.2.1;go_upto_region 7 with (fail);go_region_held_law (λw'=>(∀j,w'.cell? ⟨z.Y,j,none⟩=#[pt z.a.S,pt z.K,pt z.B,pt z.S,ι υ y.clk,ι ε IA][j]?)/\(∀j,w'.cell? ⟨w,j,none⟩=(gG pk.id pk.len pk.h0 pk.h1 pk.h2 pk.h3)[j]?)) (first|(with_reducible exact⟨ah.cell Y4,ah.cell X4⟩)|go_keep|exact⟨ah.cell (ah.drew Y3),ah.cell (ah.drew X3)⟩) ((go_at_call 87;refine(Dj z.S (N+1) fs ci y.clk _ (Q3.below ρE) ρa).mono ?_;rintro e v4 ⟨rfl,fs',hfs2,Q4,kq⟩;have Pr:KO fs v3 v4:=(KO.of_below (F:=fs) ρE).trans kq (λ_ _ h=>h);have Y4:ah v4 z.Y #[pt z.a.S,pt z.K,pt z.B,pt z.S,y.clk,ι ε IA] 129:=Y3.ko Pr τJ;have X4:=X3.ko Pr τJ));go_upto_region 8 with (fail);have z34:=Pr.size;have H4:=H3.setQ Qj Pr Q4 ρa hfs2 Vg;have E4:=(E3.more v3 4 (ZR _)).ko Pr (λx hx hf=>by rw[Pt.more_lt (Vg x hf)] at hx;have:=Qj x hf;omega);have pPb:p3 Pb=0:=(q30 _ zP0).trans pP;have P4:=P3.ko Pr τJ;have R4:=R3.ko Pr τJ;have IC:=ID.trans Pr (λx hx h=>by have:=Qj x h;rw[q30 x hx] at this;omega);obtain⟨p4,hp4⟩:=Nq (p3.more v3 4);rw[hp4] at H4 E4;have q4:∀x,x<v3.heap.size->p4 x=p3 x:=λx hx=>by rw[<- hp4];exact Pt.more_lt hx
 have zP3:=P3.size;clear rY rX H3 E3 P3 Y3 X3 Q3 kq Pr Q4 R3;have rY:=Y4.r;have rX:=X4.r;have pY4:=H4.2.1;have pX4:p4 w.heap.size=0:=(q4 _ ρa).trans pX3;have pR4:p4 (w+1)=0:=(q4 _ ρa).trans pR3;have pP4:p4 Pb=0:=(q4 _ zP3).trans pPb;go_region_held_law (λw'=>(∀j,w'.cell? ⟨z.Y,j,none⟩=#[pt z.a.S,pt z.K,pt z.B,pt z.S,ι υ y.clk,ι ε IA][j]?)/\(∀j,w'.cell? ⟨w,j,none⟩=(gG pk.id pk.len pk.h0 pk.h1 pk.h2 pk.h3)[j]?)) (first|(with_reducible exact⟨ah.cell Y5,ah.cell X5⟩)|go_keep|exact⟨ah.cell (ah.drew Y4),ah.cell (ah.drew X4)⟩) ((go_at_call 52;refine(BW p4 Pb O base op l ⟨0,true,false,y.clk,0,ci,pk⟩ _ (P4.below ρE P4.size) ρa (E4.below ρE) ρa τB).mono ?_;rintro e5 v5 ⟨rfl,E5,kq⟩;have Vu:KO (λx=>p4 x=6) v4 v5:=(KO.of_below ρE).trans kq (λ_ _ h=>h);have Y5:ah v5 z.Y #[pt z.a.S,pt z.K,pt z.B,pt z.S,y.clk,ι ε IA] 129:=Y4.ko Vu (λh=>by have h:p4 z.Y=6:=h;omega);have X5:=X4.ko Vu (λh=>by have h:p4 w.heap.size=6:=h;omega)));go_upto_region 9 with (fail);have z45:=Vu.size;have zP4:=P4.size;have zR4:=R4.size;have E5:cu (p4.more v4 6) v5 O base (l++[⟨op,true,false,y.clk,0,ci,pk⟩]):=E5;have H5:=(H4.more v4 6 (ZR _)).ko Vu (λx hx=>by unfold Pt.more;split;exact .inr hx;exact .inr rfl);have P5:=P4.ko Vu (λh=>by have h:p4 Pb=6:=h;omega);have R5:=R4.ko Vu (λh=>by have h:p4 (w+1)=6:=h;omega);have IN:KO (λx=>p x≠0) w v5:=IC.trans Vu (λx hx h=>by have h:p4 x=6:=h;rw[q4 x ρa,q30 x hx] at h;omega);obtain⟨p5,hp5⟩:=Nq (p4.more v4 6);rw[hp5] at H5 E5;have q5:∀x,x<v4.heap.size->p5 x=p4 x:=λx hx=>by rw[<- hp5];exact Pt.more_lt hx
 have pR5:p5 (w+1)=0:=(q5 _ zR4).trans pR4;have pP5:p5 Pb=0:=(q5 _ zP4).trans pP4;have q50:∀x,x<w.heap.size->p5 x=p x:=λx hx=>(q5 x ρa).trans ((q4 x ρa).trans (q30 x hx));have I:=h.inv.put Sm Js;have Nm:=F.num h5 h.inv (λy hy=>eA (Sm c F.cls.1).up y hy);have OK:YS.Ok0 {y with s:=s',ev:=y.ev++[⟨op,true,false,y.clk,0,ci,pk⟩]}:=⟨I,Nm,⟨by show SS.clk _<=_;rw[F.clk];exact ZJ _,h.clk.2⟩,by show 1<=SS.T _/\SS.T _<=_;rw[F.T];exact h.tt,h.til⟩;clear rY rX H4 E4 P4 R4 X4 Y4;have rY:=Y5.r;go_wp2_with fail;refine(BS p5 z IA (N+2) {y with s:=s',ev:=y.ev++[⟨op,true,false,y.clk,0,ci,pk⟩]} Pb O base op (l++[⟨op,true,false,y.clk,0,ci,pk⟩]) Oe v5 (H5.mono ρa) OK P5 pP5 E5 (by show y.ev++_=_;rw[LA,List.append_assoc]) ρJ ρa ρa).mono ?_;rintro e v6 ⟨rfl,p6,y6,l6,hPu,q6,H6,E6,hev6,hl6,k6⟩;have z6:=k6.size;have R6:=R5.ko k6 (λh=>h pR5);have cR:=R6.cell;have fR:=R6.frozen;have zR6:=R6.size;have pR6:p6 (w+1)=0:=(q6 _ ρa).trans pR5;have IQ:KO (λx=>p x≠0) w v6:=IN.trans k6 (λx hx h=>by rw[<- q50 x hx];exact h);clear rY;go_wp2_with fail;refine ZO (bJ (w+1) #[Kz,Kz,ι ε ci] 93 _ _ _ rfl ρr ρB Tryz.underlying93 rfl ρh) rfl ?_;exact⟨0,ci,p6,y6,l6,rfl,.packet Sm Js hPu,λx hx=>(q6 x ρa).trans (q50 x hx),H6.ko (F:=λx=>x=w.heap.size+1) ρK (λx e=>by rw[e];exact .inl pR6),E6.ko (F:=λx=>x=w.heap.size+1) ρK σq,hev6,by simp at hl6;omega,IQ.trans (G:=λx=>x=w.heap.size+1) ρK (λx hx e=>ax e ρa),(hPu.ok OK).2.1,λ_=>by rw[hI.out];exact⟨xs,0,s',Sm,Js,.inr ⟨rfl,hPu⟩⟩⟩
theorem aD.setB {p p':Pt} {w w':ϖ} {z:SA} {IA ops':Int} {N:Nat} {y:YS} {B:Nat} {rs:List RL} {ex:List FW} {ms:List Int} {ft:Nat->Prop} (h:aD p w z IA N y)(k:KO (λx=>x=z.Y) w w')(hb:ah w' z.Y #[pt z.a.S,pt z.K,pt B,pt z.S,y.clk,ι ε ops'] 129)(hT:bI w' B rs ex ms ft)(hf:∀x,ft x->x<w'.heap.size/\p' x=3)(e:∀x,x<w.heap.size->1<=p x->p x<=5->p' x=p x):aD p' w' {z with B:=B,tb:=(rs,ex,ms)} ops' N y:=by
 have hnb:=h.2.1;obtain⟨h1,h2,⟨u,b,q,h3,h4⟩,h5,-,⟨fs,h8,h9⟩,o,PB,Nn⟩:=h.part e;obtain⟨-,e2,-⟩:=h;have PE:∀x n,p' x=n->n≠1->¬x=z.Y:=λx n e h0 hx=>by rw[hx] at e;omega
 exact⟨hb,h2,⟨u,b,q,h3.ko k (PE _ 2 h5 ρa),h4⟩,h5,⟨ft,hT,hf⟩,⟨fs,h8.ko k (λx hx=>PE x 4 (h9 x hx) ρa),h9⟩,o,PB.ko k σ0,λx hx=>⟨ZB (Nn x hx).1 k.size,(Nn x hx).2⟩⟩
def DM (z z':SA):Prop:=z'.tb=z.tb
def yM (rl:List RL)(a:Int)(y:YS)(z':SA)(y':YS):Prop:=(a=0->z'.tb=(rl,(eQ rl 0 [] []).1,(eQ rl 0 [] []).2)/\y'=y)/\(EO rl->a=0)
def BX (op:Int)(pk:PK)(y:YS)(z z':SA)(y':YS):Prop:=z'.tb=z.tb/\(Ab z.tb pk=0->pp op y (Cy z.tb pk) pk y')
def BZ (op tk:Int)(y:YS)(z z':SA)(y':YS):Prop:=z'.tb=z.tb/\(tk<=4611686018427387904 - y.clk->bP op (y.clk+tk) y y')
theorem FJ (p:Pt)(z:SA)(IA:Int)(N:Nat)(y:YS)(k:Int)(cv rv:ϗ)(pk:PK)(tk:Int)(w:ϖ)(H:aD p w z IA N y)(h:y.Ok)(h6:∀x,x<w.heap.size->p x≠6)(Ww:0<=IA/\IA<=100000)(hN:N<=400000)(hk:k≠1/\k≠2/\k≠3/\k≠4):Calls Ψ 30 #[pt z.Y,φ #[ι ε k,cv,rv,pk.id,ι ε pk.len,ι ω pk.h0,ι ω pk.h1,ι ω pk.h2,ι ω pk.h3,tk]] w λe w'=>∃a b c v z' p' y' l',e=ϰ (χ #[φ #[ι ε a,ι ε b,ι ε c],v])/\z'.Y=z.Y/\jX IA y y'/\(∀x,x<w.heap.size->p' x=p x)/\aD p' w' z' (IA+1) (N+2) y'/\cD w' w v l'/\(∀x,some x=v.ownBlock->p' x=0)/\(∀x,p' x≠6)/\y'.ev=y.ev++l'/\l'.length<=N+2/\KO (λx=>p x≠0) w w'/\y'.clk=y.clk/\DM z z':=by
 have e1:(k==(1:Int))=false:=by simpa using hk.1
 have e2:(k==(2:Int))=false:=by simpa using hk.2.1
 have e3:(k==(3:Int))=false:=by simpa using hk.2.2.1
 have e4:(k==(4:Int))=false:=by simpa using hk.2.2.2
 go_in;have Y0:ah w z.Y #[pt z.a.S,pt z.K,pt z.B,pt z.S,y.clk,ι ε IA] 129:=H.1;have Rr:=Y0.r;go_upto_region 4 with (fail);refine gX w (λ_=>False) (λv=>v.heap.size=w.heap.size+3/\ah v w #[ι ε k,cv,rv,pk.id,ι ε pk.len,ι ω pk.h0,ι ω pk.h1,ι ω pk.h2,ι ω pk.h3,tk] 80/\ah v (w+1) #[Kz,Kz,Kz] 93/\ah v (w+2) #[Kn] 33/\ah v z.Y #[pt z.a.S,pt z.K,pt z.B,pt z.S,y.clk,ι ε IA] 129) ⟨by first|rfl|(simp;done),ρB,ρB,ρB,ρB⟩ (λ_ kx=>kx) ?_;rintro va ⟨za,X0,R0,O0,Y1⟩ ka;replace za:=ag za;have Ss:=Y1.r;have zX:=X0.size;have zR:=R0.size;have zO:=O0.size;go_upto_region 6 with (fail);refine gX va (λ_=>False) (λv=>v.heap.size=va.heap.size+1/\ah v w #[ι ε k,cv,rv,pk.id,ι ε pk.len,ι ω pk.h0,ι ω pk.h1,ι ω pk.h2,ι ω pk.h3,tk] 80/\ah v (w+1) #[Kz,Kz,Kz] 93/\ah v (w+2) #[Kn] 33/\ah v z.Y #[pt z.a.S,pt z.K,pt z.B,pt z.S,y.clk,ι ε IA] 129/\ah v va #[ι ε IA] 3) ⟨by first|rfl|(simp;done),ρB,ρB,ρB,ρB,ρB⟩ (λ_ kx=>kx) ?_;rintro vb ⟨zb,X1,R1,O1,Y2,P1⟩ kb;replace zb:=ag zb;clear zX zR zO X0 R0 O0 Y1;replace Ss:=Y2.r;have zX:=X1.size;have zR:=R1.size;have zO:=O1.size;have zP:=P1.size;have cX:=X1.cell;have fX:=X1.frozen;have hY0:z.Y<w:=Y0.size;have nYX:w≠z.Y:=ρa;have nYP:z.Y≠va:=by rw[za.out];omega
 go_upto_region 9 with (fail);refine gX vb (λx=>x=z.Y) (λv=>v.heap.size=vb.heap.size+1/\ah v w #[ι ε k,cv,rv,pk.id,ι ε pk.len,ι ω pk.h0,ι ω pk.h1,ι ω pk.h2,ι ω pk.h3,tk] 80/\ah v (w+1) #[Kz,Kz,Kz] 93/\ah v (w+2) #[Kn] 33/\ah v va #[ι ε IA] 3/\ah v vb #[Ko,Kz,Kz] 93/\ah v z.Y #[pt z.a.S,pt z.K,pt z.B,pt z.S,y.clk,ι ε (IA+1)] 129) ⟨by first|rfl|(simp;done),ρB,ρB,ρB,ρB,ρB,ρB⟩ (λ_ kx=>kx) ?_;rintro v1 ⟨z1,X2,R2,O2,P2,Q2,Y3⟩ kc;replace kc:=((ka.trans kb (λ_ _ f=>f)).mono (G:=λx=>x=z.Y) (λ_ _ f=>f.elim)).trans kc (λ_ _ e=>e);clear zX zR zO zP X1 R1 O1 Y2 P1 ka kb cX fX;have za:=za.out;have zb:=zb.out;rw[zb,za] at z1;rw[za] at P2;obtain⟨Pn,OG⟩:=Nq va.heap.size;obtain⟨Qn,RF⟩:=Nq vb.heap.size;rw[RF] at Q2 zb ⊢;rw[OG] at za zb ⊢;rw[<- za] at P2;rw[show w.heap.size+1+1=w.heap.size+2 from rfl];obtain⟨On,OF⟩:=Nq (w.heap.size+2);rw[OF] at O2 ⊢;have Wp:=ag OF.symm;have QQ:=ag za;have Wo:=ag zb;clear OG RF;have Vn:=H.2.1;obtain⟨p1,J9⟩:∃f:Pt,f=(λx=>if x<w.heap.size then p x else if x=On then 6 else 0):=⟨_,rfl⟩;have q1:∀x,x<w.heap.size->p1 x=p x:=λx hx=>by rw[J9];exact ZP hx
 have r1:∀x,w.heap.size<=x->x≠On->p1 x=0:=λx hx hn=>by rw[J9];show (if _ then _ else _)=_;rw[ZI ρa,ZI hn]
 have o1:p1 On=6:=σu;clear J9;have H1:aD p1 v1 z (IA+1) N y:=(H.part (λx hx _ _=>q1 x hx)).setClk kc Y3;have E1:cu p1 v1 On w []:=⟨_,O2,ae.nil _ _,o1,λx hx=>by cases hx⟩;have F':KO (λx=>p x≠0) w v1:=kc.mono τz;have b1:w.heap.size<=v1:=ρa;have pP1:=r1 Pn ρa ρa;have UM:=r1 Qn ρa ρa;have Re:=r1 (w+1) ρa ρa;clear Y0 kc Vn;replace z1:=ag z1;clear za zb OF;have cX:=X2.cell;have fX:=X2.frozen;have zX:=X2.size;replace Ss:=θ2 Y3.r Q2.r;go_upto_region 21 with (fail);have JY:jX IA y y:=.nothing;have Tt:([]:List EV).length<=N+2:=ρp;have PD:y.ev=y.ev++[]:=ρp;obtain⟨ve,O9,G9,UL,Pw⟩:=E1;have qR:p1 (w+1)=0:=Re;have qO:p1 On=6:=UL;have nRO:On≠w+1:=λe=>by rw[e,qR] at qO;cases qO
 have nRQ:Qn≠w+1:=σY;obtain⟨ao,co,rfl⟩:=ae.slice G9;obtain⟨ln,Lw⟩:=Nq (([]:List EV).length);rw[Lw] at O9 G9 Pw;clear cX fX zX;replace Ss:=Q2.r;have cO:=O9.cell;have fO:=O9.frozen;have zO:=O9.size;have cR:=R2.cell;have fR:=R2.frozen;have zR:=R2.size;go_region
 all_goals
  go_wp2_with fail;refine eu v1 (λx=>x=w.heap.size+1) (λu=>ah u (w+1) #[Ko,Kz,Kz] 93) ρB (λ_ kx=>kx) ?_;rintro u Ru ku;clear cO fO zO cR fR zR;have cR:=Ru.cell;refine ZO (v:=χ #[φ #[Ko,Kz,Kz],ζ ao ln co]) σR rfl ?_;refine⟨1,0,0,_,z,λx=>if p1 x=6 then 0 else p1 x,y,[],rfl,rfl,JY,λx hx=>?_,(((H1.ko ku τh)).mono ρa).part (λx _ h1 h5=>ZI ρa),?_,λx hx=>?_,λx=>?_,PD,Tt,F'.trans ku (λx hx e=>ax e ρa),rfl,(rfl:DM z z)⟩
  ·have e:=q1 x hx;have:=h6 x hx;show (if _ then _ else _)=_;rw[ZI κj,e]
  ·exact ae.ko G9 ku σn
  ·show (if _ then _ else _)=_;rw[ZP (Pw x hx)]
  ·show (if _ then _ else _)≠_;split;omega;assumption
theorem FL (p:Pt)(z:SA)(IA:Int)(N:Nat)(y:YS)(cv rv:ϗ)(pk:PK)(tk:Int)(w:ϖ)(H:aD p w z IA N y)(h:y.Ok)(h6:∀x,x<w.heap.size->p x≠6)(Ww:0<=IA/\IA<=100000)(hN:N<=400000):Calls Ψ 30 #[pt z.Y,φ #[ι ε 3,cv,rv,pk.id,ι ε pk.len,ι ω pk.h0,ι ω pk.h1,ι ω pk.h2,ι ω pk.h3,tk]] w λe w'=>∃a b c v z' p' y' l',e=ϰ (χ #[φ #[ι ε a,ι ε b,ι ε c],v])/\z'.Y=z.Y/\jX IA y y'/\(∀x,x<w.heap.size->p' x=p x)/\aD p' w' z' (IA+1) (N+2) y'/\cD w' w v l'/\(∀x,some x=v.ownBlock->p' x=0)/\(∀x,p' x≠6)/\y'.ev=y.ev++l'/\l'.length<=N+2/\KO (λx=>p x≠0) w w'/\y'.clk=y.clk/\BX IA pk y z z' y':=by
 go_in;have Y0:ah w z.Y #[pt z.a.S,pt z.K,pt z.B,pt z.S,y.clk,ι ε IA] 129:=H.1;have Rr:=Y0.r;go_upto_region 4 with (fail);refine gX w (λ_=>False) (λv=>v.heap.size=w.heap.size+3/\ah v w #[ι ε 3,cv,rv,pk.id,ι ε pk.len,ι ω pk.h0,ι ω pk.h1,ι ω pk.h2,ι ω pk.h3,tk] 80/\ah v (w+1) #[Kz,Kz,Kz] 93/\ah v (w+2) #[Kn] 33/\ah v z.Y #[pt z.a.S,pt z.K,pt z.B,pt z.S,y.clk,ι ε IA] 129) ⟨by first|rfl|(simp;done),ρB,ρB,ρB,ρB⟩ (λ_ kx=>kx) ?_;rintro va ⟨za,X0,R0,O0,Y1⟩ ka;replace za:=ag za;have Ss:=Y1.r;have zX:=X0.size;have zR:=R0.size;have zO:=O0.size;go_upto_region 6 with (fail);refine gX va (λ_=>False) (λv=>v.heap.size=va.heap.size+1/\ah v w #[ι ε 3,cv,rv,pk.id,ι ε pk.len,ι ω pk.h0,ι ω pk.h1,ι ω pk.h2,ι ω pk.h3,tk] 80/\ah v (w+1) #[Kz,Kz,Kz] 93/\ah v (w+2) #[Kn] 33/\ah v z.Y #[pt z.a.S,pt z.K,pt z.B,pt z.S,y.clk,ι ε IA] 129/\ah v va #[ι ε IA] 3) ⟨by first|rfl|(simp;done),ρB,ρB,ρB,ρB,ρB⟩ (λ_ kx=>kx) ?_;rintro vb ⟨zb,X1,R1,O1,Y2,P1⟩ kb;replace zb:=ag zb;clear zX zR zO X0 R0 O0 Y1;replace Ss:=Y2.r;have zX:=X1.size;have zR:=R1.size;have zO:=O1.size;have zP:=P1.size;have cX:=X1.cell;have fX:=X1.frozen;have hY0:z.Y<w:=Y0.size;have nYX:w≠z.Y:=ρa;have nYP:z.Y≠va:=by rw[za.out];omega
 go_upto_region 9 with (fail);refine gX vb (λx=>x=z.Y) (λv=>v.heap.size=vb.heap.size+1/\ah v w #[ι ε 3,cv,rv,pk.id,ι ε pk.len,ι ω pk.h0,ι ω pk.h1,ι ω pk.h2,ι ω pk.h3,tk] 80/\ah v (w+1) #[Kz,Kz,Kz] 93/\ah v (w+2) #[Kn] 33/\ah v va #[ι ε IA] 3/\ah v vb #[Ko,Kz,Kz] 93/\ah v z.Y #[pt z.a.S,pt z.K,pt z.B,pt z.S,y.clk,ι ε (IA+1)] 129) ⟨by first|rfl|(simp;done),ρB,ρB,ρB,ρB,ρB,ρB⟩ (λ_ kx=>kx) ?_;rintro v1 ⟨z1,X2,R2,O2,P2,Q2,Y3⟩ kc;replace kc:=((ka.trans kb (λ_ _ f=>f)).mono (G:=λx=>x=z.Y) (λ_ _ f=>f.elim)).trans kc (λ_ _ e=>e);clear zX zR zO zP X1 R1 O1 Y2 P1 ka kb cX fX;have za:=za.out;have zb:=zb.out;rw[zb,za] at z1;rw[za] at P2;obtain⟨Pn,OG⟩:=Nq va.heap.size;obtain⟨Qn,RF⟩:=Nq vb.heap.size;rw[RF] at Q2 zb ⊢;rw[OG] at za zb ⊢;rw[<- za] at P2;rw[show w.heap.size+1+1=w.heap.size+2 from rfl];obtain⟨On,OF⟩:=Nq (w.heap.size+2);rw[OF] at O2 ⊢;have Wp:=ag OF.symm;have QQ:=ag za;have Wo:=ag zb;clear OG RF;have Vn:=H.2.1;obtain⟨p1,J9⟩:∃f:Pt,f=(λx=>if x<w.heap.size then p x else if x=On then 6 else 0):=⟨_,rfl⟩;have q1:∀x,x<w.heap.size->p1 x=p x:=λx hx=>by rw[J9];exact ZP hx
 have r1:∀x,w.heap.size<=x->x≠On->p1 x=0:=λx hx hn=>by rw[J9];show (if _ then _ else _)=_;rw[ZI ρa,ZI hn]
 have o1:p1 On=6:=σu;clear J9;have H1:aD p1 v1 z (IA+1) N y:=(H.part (λx hx _ _=>q1 x hx)).setClk kc Y3;have E1:cu p1 v1 On w []:=⟨_,O2,ae.nil _ _,o1,λx hx=>by cases hx⟩;have F':KO (λx=>p x≠0) w v1:=kc.mono τz;have b1:w.heap.size<=v1:=ρa;have pP1:=r1 Pn ρa ρa;have UM:=r1 Qn ρa ρa;have Re:=r1 (w+1) ρa ρa;clear Y0 kc Vn;replace z1:=ag z1;clear za zb OF;have cX:=X2.cell;have fX:=X2.frozen;have zX:=X2.size;replace Ss:=θ2 Y3.r Q2.r;go_wp2_with fail;refine(Bo p1 z (IA+1) N y Pn On w IA pk [] y.ev v1 H1 h P2 pP1 E1 ρp ρJ b1).mono ?_;rintro e v2 ⟨a,c,p2,y2,l2,rfl,JY,NN,H2,E2,PD,Lv,k2,We,hx9⟩;have z2:=k2.size;have R3:=R2.ko k2 (λh=>h Re);have Q3:=Q2.ko k2 (λh=>h UM);have z1':=z1.out;have zz1:=QQ.out;have YF:=Wo.out;have zz3:=Wp.out;have q2:∀x,x<w.heap.size->p2 x=p x:=λx hx=>(NN x ρa).trans (q1 x hx);have WS:p2 (w+1)=0:=(NN _ ρa).trans Re;have pQ2:p2 Qn=0:=(NN _ ρa).trans UM;have pO2:p2 On=6:=(NN _ ρa).trans o1;have Iz:KO (λx=>p x≠0) w v2:=F'.trans k2 (λx hx h=>by rw[<- q1 x hx];exact h);clear cX fX zX;replace Ss:=Q3.r;have zR3:=R3.size;have PP:w+1≠Qn:=ρa;have gQ:w<=Qn:=ρa;clear z1' zz1 YF zz3;go_upto_region 21 with (fail);refine gX v2 (λx=>x=Qn) (λu=>ah u Qn #[ι ε a,Kz,ι ε c] 93) ρB (λ_ kx=>kx) ?_;rintro v3 Q4 k3;have H3:=H2.ko k3 κf;have E3:=E2.ko k3 σq;have R4:=R3.ko k3 PP;have ID:=Iz.trans k3 (λx hx e=>ax e ρa);clear H1 E1 H2 E2 R2 R3 Q2 Q3;have Tt:l2.length<=N+2:=by simp at Lv;omega
 replace hx9:BX IA pk y z z y2:=⟨rfl,hx9⟩;obtain⟨ve,O9,G9,UL,Pw⟩:=E3;have qR:p2 (w+1)=0:=WS;have qO:p2 On=6:=UL;have nRO:On≠w+1:=λe=>by rw[e,qR] at qO;cases qO
 have nRQ:Qn≠w+1:=σY;obtain⟨ao,co,rfl⟩:=ae.slice G9;obtain⟨ln,Lw⟩:=Nq ((l2:List EV).length);rw[Lw] at O9 G9 Pw;replace Ss:=Q4.r;have cO:=O9.cell;have fO:=O9.frozen;have zO:=O9.size;have cR:=R4.cell;have fR:=R4.frozen;have zR:=R4.size;go_region
 all_goals
  go_wp2_with fail;refine eu v3 (λx=>x=w.heap.size+1) (λu=>ah u (w+1) #[ι ε a,Kz,ι ε c] 93) ρB (λ_ kx=>kx) ?_;rintro u Ru ku;clear cO fO zO cR fR zR;have cR:=Ru.cell;refine ZO (v:=χ #[φ #[ι ε a,Kz,ι ε c],ζ ao ln co]) σR rfl ?_;refine⟨a,0,c,_,z,λx=>if p2 x=6 then 0 else p2 x,y2,l2,rfl,rfl,JY,λx hx=>?_,(((H3.ko ku τh)).mono ρa).part (λx _ h1 h5=>ZI ρa),?_,λx hx=>?_,λx=>?_,PD,Tt,ID.trans ku (λx hx e=>ax e ρa),We,hx9⟩
  ·have e:=q2 x hx;have:=h6 x hx;show (if _ then _ else _)=_;rw[ZI κj,e]
  ·exact ae.ko G9 ku σn
  ·show (if _ then _ else _)=_;rw[ZP (Pw x hx)]
  ·show (if _ then _ else _)≠_;split;omega;assumption
theorem FM (p:Pt)(z:SA)(IA:Int)(N:Nat)(y:YS)(cv rv:ϗ)(pk:PK)(tk:Int)(w:ϖ)(H:aD p w z IA N y)(h:y.Ok)(h6:∀x,x<w.heap.size->p x≠6)(Ww:0<=IA/\IA<=100000)(hN:N<=400000)(Sz:aq tk):Calls Ψ 30 #[pt z.Y,φ #[ι ε 4,cv,rv,pk.id,ι ε pk.len,ι ω pk.h0,ι ω pk.h1,ι ω pk.h2,ι ω pk.h3,tk]] w λe w'=>∃a b c v z' p' y' l',e=ϰ (χ #[φ #[ι ε a,ι ε b,ι ε c],v])/\z'.Y=z.Y/\jX IA y y'/\(∀x,x<w.heap.size->p' x=p x)/\aD p' w' z' (IA+1) (N+2) y'/\cD w' w v l'/\(∀x,some x=v.ownBlock->p' x=0)/\(∀x,p' x≠6)/\y'.ev=y.ev++l'/\l'.length<=N+2/\KO (λx=>p x≠0) w w'/\y'.clk=(if tk<=4611686018427387904 - y.clk then y.clk+tk else y.clk)/\BZ IA tk y z z' y':=by
 obtain⟨ck,Ts⟩:=Nq (if tk<=4611686018427387904 - y.clk then y.clk+tk else y.clk);rw[Ts];replace Ts:=ag Ts;go_in;have Y0:ah w z.Y #[pt z.a.S,pt z.K,pt z.B,pt z.S,y.clk,ι ε IA] 129:=H.1;have Rr:=Y0.r;go_upto_region 4 with (fail);refine gX w (λ_=>False) (λv=>v.heap.size=w.heap.size+3/\ah v w #[ι ε 4,cv,rv,pk.id,ι ε pk.len,ι ω pk.h0,ι ω pk.h1,ι ω pk.h2,ι ω pk.h3,tk] 80/\ah v (w+1) #[Kz,Kz,Kz] 93/\ah v (w+2) #[Kn] 33/\ah v z.Y #[pt z.a.S,pt z.K,pt z.B,pt z.S,y.clk,ι ε IA] 129) ⟨by first|rfl|(simp;done),ρB,ρB,ρB,ρB⟩ (λ_ kx=>kx) ?_;rintro va ⟨za,X0,R0,O0,Y1⟩ ka;replace za:=ag za;have Ss:=Y1.r;have zX:=X0.size;have zR:=R0.size;have zO:=O0.size;go_upto_region 6 with (fail);refine gX va (λ_=>False) (λv=>v.heap.size=va.heap.size+1/\ah v w #[ι ε 4,cv,rv,pk.id,ι ε pk.len,ι ω pk.h0,ι ω pk.h1,ι ω pk.h2,ι ω pk.h3,tk] 80/\ah v (w+1) #[Kz,Kz,Kz] 93/\ah v (w+2) #[Kn] 33/\ah v z.Y #[pt z.a.S,pt z.K,pt z.B,pt z.S,y.clk,ι ε IA] 129/\ah v va #[ι ε IA] 3) ⟨by first|rfl|(simp;done),ρB,ρB,ρB,ρB,ρB⟩ (λ_ kx=>kx) ?_;rintro vb ⟨zb,X1,R1,O1,Y2,P1⟩ kb;replace zb:=ag zb;clear zX zR zO X0 R0 O0 Y1;replace Ss:=Y2.r;have zX:=X1.size;have zR:=R1.size;have zO:=O1.size;have zP:=P1.size;have cX:=X1.cell;have fX:=X1.frozen;have hY0:z.Y<w:=Y0.size;have nYX:w≠z.Y:=ρa;have nYP:z.Y≠va:=by rw[za.out];omega
 go_upto_region 9 with (fail);refine gX vb (λx=>x=z.Y) (λv=>v.heap.size=vb.heap.size+1/\ah v w #[ι ε 4,cv,rv,pk.id,ι ε pk.len,ι ω pk.h0,ι ω pk.h1,ι ω pk.h2,ι ω pk.h3,tk] 80/\ah v (w+1) #[Kz,Kz,Kz] 93/\ah v (w+2) #[Kn] 33/\ah v va #[ι ε IA] 3/\ah v vb #[Ko,Kz,Kz] 93/\ah v z.Y #[pt z.a.S,pt z.K,pt z.B,pt z.S,y.clk,ι ε (IA+1)] 129) ⟨by first|rfl|(simp;done),ρB,ρB,ρB,ρB,ρB,ρB⟩ (λ_ kx=>kx) ?_;rintro v1 ⟨z1,X2,R2,O2,P2,Q2,Y3⟩ kc;replace kc:=((ka.trans kb (λ_ _ f=>f)).mono (G:=λx=>x=z.Y) (λ_ _ f=>f.elim)).trans kc (λ_ _ e=>e);clear zX zR zO zP X1 R1 O1 Y2 P1 ka kb cX fX;have za:=za.out;have zb:=zb.out;rw[zb,za] at z1;rw[za] at P2;obtain⟨Pn,OG⟩:=Nq va.heap.size;obtain⟨Qn,RF⟩:=Nq vb.heap.size;rw[RF] at Q2 zb ⊢;rw[OG] at za zb ⊢;rw[<- za] at P2;rw[show w.heap.size+1+1=w.heap.size+2 from rfl];obtain⟨On,OF⟩:=Nq (w.heap.size+2);rw[OF] at O2 ⊢;have Wp:=ag OF.symm;have QQ:=ag za;have Wo:=ag zb;clear OG RF;have Vn:=H.2.1;obtain⟨p1,J9⟩:∃f:Pt,f=(λx=>if x<w.heap.size then p x else if x=On then 6 else 0):=⟨_,rfl⟩;have q1:∀x,x<w.heap.size->p1 x=p x:=λx hx=>by rw[J9];exact ZP hx
 have r1:∀x,w.heap.size<=x->x≠On->p1 x=0:=λx hx hn=>by rw[J9];show (if _ then _ else _)=_;rw[ZI ρa,ZI hn]
 have o1:p1 On=6:=σu;clear J9;have H1:aD p1 v1 z (IA+1) N y:=(H.part (λx hx _ _=>q1 x hx)).setClk kc Y3;have E1:cu p1 v1 On w []:=⟨_,O2,ae.nil _ _,o1,λx hx=>by cases hx⟩;have F':KO (λx=>p x≠0) w v1:=kc.mono τz;have b1:w.heap.size<=v1:=ρa;have pP1:=r1 Pn ρa ρa;have UM:=r1 Qn ρa ρa;have Re:=r1 (w+1) ρa ρa;clear Y0 kc Vn;replace z1:=ag z1;clear za zb OF;have cX:=X2.cell;have fX:=X2.frozen;have zX:=X2.size;replace Ss:=θ2 Y3.r Q2.r;go_wp2_with fail;refine(yI p1 z (IA+1) N y Pn On w IA tk [] y.ev v1 H1 h P2 pP1 E1 ρp ρJ b1 Sz).mono ?_;rintro e v2 ⟨a,p2,y2,l2,rfl,JY,NN,H2,E2,PD,Lv,k2,We,hx9⟩;have z2:=k2.size;have R3:=R2.ko k2 (λh=>h Re);have Q3:=Q2.ko k2 (λh=>h UM);have z1':=z1.out;have zz1:=QQ.out;have YF:=Wo.out;have zz3:=Wp.out;have q2:∀x,x<w.heap.size->p2 x=p x:=λx hx=>(NN x ρa).trans (q1 x hx);have WS:p2 (w+1)=0:=(NN _ ρa).trans Re;have pQ2:p2 Qn=0:=(NN _ ρa).trans UM;have pO2:p2 On=6:=(NN _ ρa).trans o1;have Iz:KO (λx=>p x≠0) w v2:=F'.trans k2 (λx hx h=>by rw[<- q1 x hx];exact h);clear cX fX zX;replace Ss:=Q3.r;have zR3:=R3.size;have PP:w+1≠Qn:=ρa;have gQ:w<=Qn:=ρa;clear z1' zz1 YF zz3;go_upto_region 21 with (fail);refine gX v2 (λx=>x=Qn) (λu=>ah u Qn #[ι ε a,Kz,Kz] 93) ρB (λ_ kx=>kx) ?_;rintro v3 Q4 k3;have H3:=H2.ko k3 κf;have E3:=E2.ko k3 σq;have R4:=R3.ko k3 PP;have ID:=Iz.trans k3 (λx hx e=>ax e ρa);clear H1 E1 H2 E2 R2 R3 Q2 Q3;rw[Ts.out] at We;have Tt:l2.length<=N+2:=by simp at Lv;omega
 replace hx9:BZ IA tk y z z y2:=⟨rfl,hx9⟩;obtain⟨ve,O9,G9,UL,Pw⟩:=E3;have qR:p2 (w+1)=0:=WS;have qO:p2 On=6:=UL;have nRO:On≠w+1:=λe=>by rw[e,qR] at qO;cases qO
 have nRQ:Qn≠w+1:=σY;obtain⟨ao,co,rfl⟩:=ae.slice G9;obtain⟨ln,Lw⟩:=Nq ((l2:List EV).length);rw[Lw] at O9 G9 Pw;replace Ss:=Q4.r;have cO:=O9.cell;have fO:=O9.frozen;have zO:=O9.size;have cR:=R4.cell;have fR:=R4.frozen;have zR:=R4.size;go_region
 all_goals
  go_wp2_with fail;refine eu v3 (λx=>x=w.heap.size+1) (λu=>ah u (w+1) #[ι ε a,Kz,Kz] 93) ρB (λ_ kx=>kx) ?_;rintro u Ru ku;clear cO fO zO cR fR zR;have cR:=Ru.cell;refine ZO (v:=χ #[φ #[ι ε a,Kz,Kz],ζ ao ln co]) σR rfl ?_;refine⟨a,0,0,_,z,λx=>if p2 x=6 then 0 else p2 x,y2,l2,rfl,rfl,JY,λx hx=>?_,(((H3.ko ku τh)).mono ρa).part (λx _ h1 h5=>ZI ρa),?_,λx hx=>?_,λx=>?_,PD,Tt,ID.trans ku (λx hx e=>ax e ρa),We,hx9⟩
  ·have e:=q2 x hx;have:=h6 x hx;show (if _ then _ else _)=_;rw[ZI κj,e]
  ·exact ae.ko G9 ku σn
  ·show (if _ then _ else _)=_;rw[ZP (Pw x hx)]
  ·show (if _ then _ else _)≠_;split;omega;assumption
theorem FK (p:Pt)(z:SA)(IA:Int)(N:Nat)(y:YS)(cv rv:ϗ)(pk:PK)(tk:Int)(rl:List RL)(B:Nat)(w:ϖ)(H:aD p w z IA N y)(h:y.Ok)(h6:∀x,x<w.heap.size->p x≠6)(Ww:0<=IA/\IA<=100000)(hN:N<=400000)(G:az 9 pi w B rv rl)(Nr:rl.length<=1000)(hB:∀x,x<B->p x=0):Calls Ψ 30 #[pt z.Y,φ #[ι ε 2,cv,rv,pk.id,ι ε pk.len,ι ω pk.h0,ι ω pk.h1,ι ω pk.h2,ι ω pk.h3,tk]] w λe w'=>∃a b c v z' p' y' l',e=ϰ (χ #[φ #[ι ε a,ι ε b,ι ε c],v])/\z'.Y=z.Y/\jX IA y y'/\(∀x,x<w.heap.size->p' x=p x)/\aD p' w' z' (IA+1) (N+2) y'/\cD w' w v l'/\(∀x,some x=v.ownBlock->p' x=0)/\(∀x,p' x≠6)/\y'.ev=y.ev++l'/\l'.length<=N+2/\KO (λx=>p x≠0) w w'/\y'.clk=y.clk/\yM rl a y z' y':=by
 obtain⟨ra,rc,rfl,-⟩:=G.slice;obtain⟨rn,Sw⟩:=Nq rl.length;have G0:=G;rw[Sw] at G0 ⊢;go_in;have Y0:ah w z.Y #[pt z.a.S,pt z.K,pt z.B,pt z.S,y.clk,ι ε IA] 129:=H.1;have rY:=Y0.r;go_upto_region 4 with (fail);refine gX w (λ_=>False) (λv=>v.heap.size=w.heap.size+3/\ah v w #[ι ε 2,cv,ζ ra rn rc,pk.id,ι ε pk.len,ι ω pk.h0,ι ω pk.h1,ι ω pk.h2,ι ω pk.h3,tk] 80/\ah v (w+1) #[Kz,Kz,Kz] 93/\ah v (w+2) #[Kn] 33/\ah v z.Y #[pt z.a.S,pt z.K,pt z.B,pt z.S,y.clk,ι ε IA] 129) ⟨by first|rfl|(simp;done),ρB,ρB,ρB,ρB⟩ (λ_ kx=>kx) ?_;rintro va ⟨za,X0,R0,O0,Y1⟩ ka;replace za:=ag za;clear rY;have rY:=Y1.r;have zX:=X0.size;have zR:=R0.size;have zO:=O0.size;go_upto_region 6 with (fail);refine gX va (λ_=>False) (λv=>v.heap.size=va.heap.size+1/\ah v w #[ι ε 2,cv,ζ ra rn rc,pk.id,ι ε pk.len,ι ω pk.h0,ι ω pk.h1,ι ω pk.h2,ι ω pk.h3,tk] 80/\ah v (w+1) #[Kz,Kz,Kz] 93/\ah v (w+2) #[Kn] 33/\ah v z.Y #[pt z.a.S,pt z.K,pt z.B,pt z.S,y.clk,ι ε IA] 129/\ah v va #[ι ε IA] 3) ⟨by first|rfl|(simp;done),ρB,ρB,ρB,ρB,ρB⟩ (λ_ kx=>kx) ?_;rintro vb ⟨zb,X1,R1,O1,Y2,P1⟩ kb;replace zb:=ag zb;clear rY zX zR zO X0 R0 O0 Y1;have rY:=Y2.r;have zX:=X1.size;have zR:=R1.size;have zO:=O1.size;have zP:=P1.size;have cX:=X1.cell;have fX:=X1.frozen;have hY0:z.Y<w:=Y0.size;have nYX:w≠z.Y:=ρa;have nYP:z.Y≠va:=by rw[za.out];omega
 go_upto_region 9 with (fail);refine gX vb (λx=>x=z.Y) (λv=>v.heap.size=vb.heap.size+1/\ah v w #[ι ε 2,cv,ζ ra rn rc,pk.id,ι ε pk.len,ι ω pk.h0,ι ω pk.h1,ι ω pk.h2,ι ω pk.h3,tk] 80/\ah v (w+1) #[Kz,Kz,Kz] 93/\ah v (w+2) #[Kn] 33/\ah v va #[ι ε IA] 3/\ah v vb #[Ko,Kz,Kz] 93/\ah v z.Y #[pt z.a.S,pt z.K,pt z.B,pt z.S,y.clk,ι ε (IA+1)] 129) ⟨by first|rfl|(simp;done),ρB,ρB,ρB,ρB,ρB,ρB⟩ (λ_ kx=>kx) ?_;rintro v1 ⟨z1,X2,R2,O2,P2,Q2,Y3⟩ kc;replace kc:=((ka.trans kb (λ_ _ f=>f)).mono (G:=λx=>x=z.Y) (λ_ _ f=>f.elim)).trans kc (λ_ _ e=>e);clear rY zX zR zO zP X1 R1 O1 Y2 P1 ka kb cX fX;have za:=za.out;have zb:=zb.out;rw[zb,za] at z1;rw[za] at P2;obtain⟨Pn,OG⟩:=Nq va.heap.size;obtain⟨Qn,RF⟩:=Nq vb.heap.size;rw[RF] at Q2 zb ⊢;rw[OG] at za zb ⊢;rw[<- za] at P2;rw[show w.heap.size+1+1=w.heap.size+2 from rfl];obtain⟨On,OF⟩:=Nq (w.heap.size+2);rw[OF] at O2 ⊢;have Wp:=ag OF.symm;have QQ:=ag za;have Wo:=ag zb;clear OG RF;have Vn:=H.2.1;obtain⟨p1,J9⟩:∃f:Pt,f=(λx=>if x<w.heap.size then p x else if x=On then 6 else 0):=⟨_,rfl⟩;have q1:∀x,x<w.heap.size->p1 x=p x:=λx hx=>by rw[J9];exact ZP hx
 have r1:∀x,w.heap.size<=x->x≠On->p1 x=0:=λx hx hn=>by rw[J9];show (if _ then _ else _)=_;rw[ZI ρa,ZI hn]
 have o1:p1 On=6:=σu;clear J9;have H1:aD p1 v1 z (IA+1) N y:=(H.part (λx hx _ _=>q1 x hx)).setClk kc Y3;have E1:cu p1 v1 On w []:=⟨_,O2,ae.nil _ _,o1,λx hx=>by cases hx⟩;have F':KO (λx=>p x≠0) w v1:=kc.mono τz;have b1:w.heap.size<=v1:=ρa;have pP1:=r1 Pn ρa ρa;have UM:=r1 Qn ρa ρa;have Re:=r1 (w+1) ρa ρa;clear Y0 kc Vn;replace z1:=ag z1;clear za zb OF;have cX:=X2.cell;have fX:=X2.frozen;have zX:=X2.size;have rY:=Y3.r;have cQ:=Q2.cell;have fQ:=Q2.frozen;have zQ:=Q2.size;have G1:=G0.ko F' (λx hx e=>e (hB x hx));have z1':=z1.out;have zz1:=QQ.out;have YF:=Wo.out;have zz3:=Wp.out;have PP:w+1≠Qn:=ρa;have gQ:w<=Qn:=ρa;have nYQ:z.Y≠Qn:=ρa;have nYR:z.Y≠w+1:=ρa;have zO1:On<v1:=O2.size;have nYO:z.Y≠On:=ρa;clear z1' zz1 YF zz3;go_wp2_with fail;refine(BE _ rl B v1 G1 Nr).mono ?_;rintro e v2 ⟨u,n,rfl,k2,h2⟩;have z2:=k2.size;have R3:=R2.below k2 R2.size;have Q3:=Q2.below k2 zQ;have Y4:=Y3.below k2 rY.2.2;obtain⟨H2,E2,Iz⟩:=Mw k2 (θ3 H1 E1 F');clear cX fX zX rY cQ fQ H1 E1 R2 X2 G1;have cQ:=Q3.cell;have fQ:=Q3.frozen;have zQ2:=Q3.size;have rY:=Y4.r;have zR3:=R3.size;have JY:jX IA y y:=.nothing;have Tt:([]:List EV).length<=N+2:=ρp;have PD:y.ev=y.ev++[]:=ρp;by_cases hn:n=0
 ·obtain⟨B2,fp,rfl,MZ,T2⟩:∃B2 fp,u=pt B2/\(∀x,fp x->v1.heap.size<=x)/\bI v2 B2 rl (eQ rl 0 [] []).1 (eQ rl 0 [] []).2 fp:=by rcases h2 with ⟨g,_⟩|⟨_,g⟩;exact ax hn g;exact g
  subst hn;go_upto_region 16 with (fail);refine gX v2 (λx=>x=z.Y) (λu=>ah u z.Y #[pt z.a.S,pt z.K,pt B2,pt z.S,y.clk,ι ε (IA+1)] 129) ρB (λ_ kx=>kx) ?_;rintro v3 Y5 k3;have IJ:∀x,fp x->x<v2.heap.size:=by obtain⟨_,_,_,_,_,_,_,_,_,_,_,_,g⟩:=T2;exact g
  have zk3:=k3.size;obtain⟨p2,Us⟩:=Nq (p1.more v1 3);have NN:∀x,x<v1.heap.size->p2 x=p1 x:=λx hx=>by rw[<- Us];exact Pt.more_lt hx
  have q23:∀x,v1.heap.size<=x->p2 x=3:=λx hx=>by rw[<- Us];exact Pt.more_ge hx
  clear Us;have H3:=H2.setB (p':=p2) k3 Y5 (T2.ko k3 (λx hx e=>by have:=MZ x hx;omega)) (λx hx=>⟨ZB (IJ x hx) zk3,q23 x (MZ x hx)⟩) (λx hx h1 h5=>by by_cases e:x<v1;exact NN x e;exfalso;have:=r1 x ρa ρa;omega);have E3:=(E2.part (p':=p2) (λx hx e=>by by_cases g:x<v1;exact(NN x g).trans e;exfalso;have:=r1 x ρa ρa;omega)).ko k3 (λx hx e=>by have:=H3.2.1;rw[e] at hx;have g:p2 z.Y=1:=this;omega);have R4:=R3.ko k3 (Ne.symm nYR);have Q5:=Q3.ko k3 (Ne.symm nYQ);have ID:=Iz.trans k3 (λx hx e=>by have:=H.2.1;rw[e];omega);have q2:∀x,x<w.heap.size->p2 x=p x:=λx hx=>(NN x ρa).trans (q1 x hx);have zR1:w.heap.size+1<v1:=τm;have WS:p2 (w+1)=0:=(NN _ zR1).trans Re;have pQ2:p2 Qn=0:=(NN _ zQ).trans UM;have pO2:p2 On=6:=(NN _ zO1).trans o1;clear rY cQ fQ zQ2 H2 E2 R3 Q3 Y4;have cQ:=Q5.cell;have fQ:=Q5.frozen;have zQ5:=Q5.size;go_upto_region 21 with (fail);refine gX v3 (λx=>x=Qn) (λu=>ah u Qn #[Kz,Kz,Kz] 93) ρB (λ_ kx=>kx) ?_;rintro v4 Q4 k4;have H4:=H3.ko k4 κf;have E4:=E3.ko k4 σq;have R5:=R4.ko k4 PP;have IC:=ID.trans k4 (λx hx e=>ax e ρa);clear H3 E3 R4 Q5;obtain⟨ve,O9,G9,UL,Pw⟩:=E4;have qR:p2 (w+1)=0:=WS;have qO:p2 On=6:=UL;have nRO:On≠w+1:=λe=>by rw[e,qR] at qO;cases qO
  have nRQ:Qn≠w+1:=σY;obtain⟨ao,co,rfl⟩:=ae.slice G9;obtain⟨ln,Lw⟩:=Nq (([]:List EV).length);rw[Lw] at O9 G9 Pw;clear cQ fQ zQ;have cQ:=Q4.cell;have fQ:=Q4.frozen;have zQ:=Q4.size;have cO:=O9.cell;have fO:=O9.frozen;have zO:=O9.size;have cR:=R5.cell;have fR:=R5.frozen;have zR:=R5.size;go_region
  all_goals
   go_wp2_with fail;refine eu v4 (λx=>x=w.heap.size+1) (λu=>ah u (w+1) #[Kz,Kz,Kz] 93) ρB (λ_ kx=>kx) ?_;rintro u Ru ku;clear cQ fQ zQ cO fO zO cR fR zR;have cR:=Ru.cell;refine ZO (v:=χ #[φ #[Kz,Kz,Kz],ζ ao ln co]) σR rfl ?_;refine⟨0,0,0,_,{z with B:=B2,tb:=(rl,(eQ rl 0 [] []).1,(eQ rl 0 [] []).2)},λx=>if p2 x=6 then 0 else p2 x,y,[],rfl,rfl,JY,λx hx=>?_,(((H4.ko ku τh)).mono ρa).part (λx _ h1 h5=>ZI ρa),?_,λx hx=>?_,λx=>?_,PD,Tt,IC.trans ku (λx hx e=>ax e ρa),rfl,(⟨λ_=>⟨rfl,rfl⟩,λ_=>rfl⟩:yM rl 0 y {z with B:=B2,tb:=(rl,(eQ rl 0 [] []).1,(eQ rl 0 [] []).2)} y)⟩
   ·have e:=q2 x hx;have:=h6 x hx;show (if _ then _ else _)=_;rw[ZI κj,e]
   ·exact ae.ko G9 ku σn
   ·show (if _ then _ else _)=_;rw[ZP (Pw x hx)]
   ·show (if _ then _ else _)≠_;split;omega;assumption
 ·have d1:(n==0)=false:=by simpa using hn
  have hbad:¬EO rl:=by rcases h2 with ⟨_,g⟩|⟨g,_⟩;exact g;exact ax g hn
  go_upto_region 21 with (fail);refine gX v2 (λx=>x=Qn) (λu=>ah u Qn #[ι ε n,Kz,Kz] 93) ρB (λ_ kx=>kx) ?_;rintro v3 Q4 k3;have H3:=H2.ko k3 (λx e=>by rw[e];exact .inl UM);have E3:=E2.ko k3 σq;have R4:=R3.ko k3 PP;have ID:=Iz.trans k3 (λx hx e=>ax e ρa);clear H2 E2 R3 Q3;obtain⟨ve,O9,G9,UL,Pw⟩:=E3;have qR:p1 (w+1)=0:=Re;have qO:p1 On=6:=UL;have nRO:On≠w+1:=λe=>by rw[e,qR] at qO;cases qO
  have nRQ:Qn≠w+1:=σY;obtain⟨ao,co,rfl⟩:=ae.slice G9;obtain⟨ln,Lw⟩:=Nq (([]:List EV).length);rw[Lw] at O9 G9 Pw;clear rY cQ fQ zQ;have cQ:=Q4.cell;have fQ:=Q4.frozen;have zQ:=Q4.size;have cO:=O9.cell;have fO:=O9.frozen;have zO:=O9.size;have cR:=R4.cell;have fR:=R4.frozen;have zR:=R4.size;go_region
  all_goals
   go_wp2_with fail;refine eu v3 (λx=>x=w.heap.size+1) (λu=>ah u (w+1) #[ι ε n,Kz,Kz] 93) ρB (λ_ kx=>kx) ?_;rintro u Ru ku;clear cQ fQ zQ cO fO zO cR fR zR;have cR:=Ru.cell;refine ZO (v:=χ #[φ #[ι ε n,Kz,Kz],ζ ao ln co]) σR rfl ?_;refine⟨n,0,0,_,z,λx=>if p1 x=6 then 0 else p1 x,y,[],rfl,rfl,JY,λx hx=>?_,(((H3.ko ku τh)).mono ρa).part (λx _ h1 h5=>ZI ρa),?_,λx hx=>?_,λx=>?_,PD,Tt,ID.trans ku (λx hx e=>ax e ρa),rfl,(⟨λh=>ax h hn,λh=>ax h hbad⟩:yM rl n y z y)⟩
   ·have e:=q1 x hx;have:=h6 x hx;show (if _ then _ else _)=_;rw[ZI κj,e]
   ·exact ae.ko G9 ku σn
   ·show (if _ then _ else _)=_;rw[ZP (Pw x hx)]
   ·show (if _ then _ else _)≠_;split;omega;assumption
theorem oN (T Lm:Int)(L:List CD):(fw T Lm L).pks=0:=by
 unfold SS.pks;have:∀R:List Int,ed (λi=>(((fw T Lm L).e i).q.length:Int)) R=0:=by
  intro R
  induction R with
  | nil=>rfl
  | cons i r ih=>simp only[ed,ih];rfl
 exact this _
theorem aD.setA {p:Pt} {w w':ϖ} {z:SA} {IA:Int} {N:Nat} {y:YS} {a':Ad} {o o':aT} {s':SS} (h:aD p w z IA N y)(ha:a'.S=z.a.S)(ho:∀x,o x≠.no->x<w.heap.size/\p x=5)(k:KO (λx=>(o x).mine) w w')(H':ar o' w' a' s')(e:∀x,x<w.heap.size->o' x=o x)(hT:s'.T=y.s.T)(hp:s'.pks<=y.s.pks):aD (p.more w 5) w' {z with a:=a'} IA N {y with s:=s'}:=by
 obtain⟨h1,h2,⟨u,b,q,h3,h4⟩,h5,⟨ft,h6,h7⟩,⟨fs,h8,h9⟩,-⟩:=h;have hs:∀x,fs x->x<w.heap.size:=τM;have hf:∀x n,p x=n->n≠5->¬(o x).mine:=λx n e h0 hx=>by have:=(ho x hx).2;omega
 refine⟨?_,(Pt.more_lt h1.size).trans h2,⟨u,b,q,?_,h4.1,?_,h4.2.2⟩,(Pt.more_lt h3.size).trans h5,⟨ft,h6.ko k (λx hx=>hf x 3 (h7 x hx).2 ρa),λx hx=>⟨ZB (h7 x hx).1 k.size,(Pt.more_lt (h7 x hx).1).trans (h7 x hx).2⟩⟩,⟨fs,h8.ko k (λx hx=>hf x 4 (h9 x hx) ρa),λx hx=>(Pt.more_lt (hs x hx)).trans (h9 x hx)⟩,_,H'.own (o':=λx=>if x<w'.heap.size then o' x else .no) (λx hx=>ZP hx),λx hx=>?_⟩
 ·have:=h1.ko k (hf _ 1 h2 ρa);show ah w' z.Y #[pt a'.S,pt z.K,pt z.B,pt z.S,_,_] _;rw[ha];exact this
 ·show ah w' z.K (Et u b q s'.T y.til) _;rw[hT];exact h3.ko k (hf _ 2 h5 ρa)
 ·have:=h4.2.1;show u+s'.pks<=_;omega
 ·by_cases hw:x<w'
  ·refine⟨hw,?_⟩;rw[ZP hw] at hx;by_cases Kx:x<w
   ·rw[Pt.more_lt Kx];exact(ho x (by rw[<- e x Kx];exact hx)).2
   ·exact Pt.more_ge ρa
  ·rw[ZI hw] at hx;exact ax rfl hx
theorem GR (p:Pt)(z:SA)(IA:Int)(N:Nat)(W9 Lm:Int)(cv rv:ϗ)(pk:PK)(tk:Int)(L2:List CD)(Pn9:Int->Prop)(w:ϖ)(H:aD p w z IA N ⟨fw W9 Lm [],0,0,[]⟩)(h6:∀x,x<w.heap.size->p x≠6)(Ww:0<=IA/\IA<=100000)(Ve:∃a n c,cv=ζ a n c)
  (hA:∀w1,KO (λx=>p x≠0) w w1->aF w1 z.a.T z.a.M []->Calls Ψ 76 #[z.a.T,ι ε W9,cv] w1 λe w'=>∃u i n,e=ϰ (χ #[u,ι ε i,ι ε n])/\Pn9 n/\(n=0->∃T' M',u=ψ (some ⟨T',0,none⟩)/\w1.heap.size<=T'/\w1.heap.size<=M'/\aF w' T' M' L2)/\Below w1 w1 w')
  (Lh:L2.length<=900) (JK:∀c ∈ L2,c.lf=true->(1<=c.pk/\c.pk<=64)/\(1<=c.by_/\c.by_<=1048576)) (hz:fc L2 0=none):Calls Ψ 30 #[pt z.Y,φ #[Ko,cv,rv,pk.id,ι ε pk.len,ι ω pk.h0,ι ω pk.h1,ι ω pk.h2,ι ω pk.h3,tk]] w λe w'=>∃n i v z' p' s',e=ϰ (χ #[φ #[ι ε n,ι ε i,Kz],v])/\z'.Y=z.Y/\((n≠0/\Pn9 n/\s'=fw W9 Lm [])\/(n=0/\Pn9 0/\s'=fw W9 Lm L2))/\(∀x,x<w.heap.size->p' x=p x)/\aD p' w' z' (IA+1) N ⟨s',0,0,[]⟩/\cD w' w v []/\(∀x,some x=v.ownBlock->p' x=0)/\(∀x,p' x≠6)/\KO (λx=>p x≠0) w w':=by
 obtain⟨ca,cn,cc,rfl⟩:=Ve;obtain⟨y,hy⟩:∃y:YS,y=⟨fw W9 Lm [],0,0,[]⟩:=⟨_,rfl⟩;rw[<- hy] at H;have N4:y.clk=0:=by rw[hy]
 have htil:y.til=0:=by rw[hy]
 have Jd:y.s=fw W9 Lm []:=by rw[hy]
 go_in;have Y0:ah w z.Y #[pt z.a.S,pt z.K,pt z.B,pt z.S,y.clk,ι ε IA] 129:=H.1;have Rr:=Y0.r;go_upto_region 4 with (fail);refine gX w (λ_=>False) (λv=>v.heap.size=w.heap.size+3/\ah v w #[Ko,ζ ca cn cc,rv,pk.id,ι ε pk.len,ι ω pk.h0,ι ω pk.h1,ι ω pk.h2,ι ω pk.h3,tk] 80/\ah v (w+1) #[Kz,Kz,Kz] 93/\ah v (w+2) #[Kn] 33/\ah v z.Y #[pt z.a.S,pt z.K,pt z.B,pt z.S,y.clk,ι ε IA] 129) ⟨by first|rfl|(simp;done),ρB,ρB,ρB,ρB⟩ (λ_ kx=>kx) ?_;rintro va ⟨za,X0,R0,O0,Y1⟩ ka;replace za:=ag za;have Ss:=Y1.r;have zX:=X0.size;have zR:=R0.size;have zO:=O0.size;go_upto_region 6 with (fail);refine gX va (λ_=>False) (λv=>v.heap.size=va.heap.size+1/\ah v w #[Ko,ζ ca cn cc,rv,pk.id,ι ε pk.len,ι ω pk.h0,ι ω pk.h1,ι ω pk.h2,ι ω pk.h3,tk] 80/\ah v (w+1) #[Kz,Kz,Kz] 93/\ah v (w+2) #[Kn] 33/\ah v z.Y #[pt z.a.S,pt z.K,pt z.B,pt z.S,y.clk,ι ε IA] 129/\ah v va #[ι ε IA] 3) ⟨by first|rfl|(simp;done),ρB,ρB,ρB,ρB,ρB⟩ (λ_ kx=>kx) ?_;rintro vb ⟨zb,X1,R1,O1,Y2,P1⟩ kb;replace zb:=ag zb;clear zX zR zO X0 R0 O0 Y1;replace Ss:=Y2.r;have zX:=X1.size;have zR:=R1.size;have zO:=O1.size;have zP:=P1.size;have cX:=X1.cell;have fX:=X1.frozen;have hY0:z.Y<w:=Y0.size;have nYX:w≠z.Y:=ρa;have nYP:z.Y≠va:=by rw[za.out];omega
 go_upto_region 9 with (fail);refine gX vb (λx=>x=z.Y) (λv=>v.heap.size=vb.heap.size+1/\ah v w #[Ko,ζ ca cn cc,rv,pk.id,ι ε pk.len,ι ω pk.h0,ι ω pk.h1,ι ω pk.h2,ι ω pk.h3,tk] 80/\ah v (w+1) #[Kz,Kz,Kz] 93/\ah v (w+2) #[Kn] 33/\ah v va #[ι ε IA] 3/\ah v vb #[Ko,Kz,Kz] 93/\ah v z.Y #[pt z.a.S,pt z.K,pt z.B,pt z.S,y.clk,ι ε (IA+1)] 129) ⟨by first|rfl|(simp;done),ρB,ρB,ρB,ρB,ρB,ρB⟩ (λ_ kx=>kx) ?_;rintro v1 ⟨z1,X2,R2,O2,P2,Q2,Y3⟩ kc;replace kc:=((ka.trans kb (λ_ _ f=>f)).mono (G:=λx=>x=z.Y) (λ_ _ f=>f.elim)).trans kc (λ_ _ e=>e);clear zX zR zO zP X1 R1 O1 Y2 P1 ka kb cX fX;have za:=za.out;have zb:=zb.out;rw[zb,za] at z1;rw[za] at P2;obtain⟨Pn,OG⟩:=Nq va.heap.size;obtain⟨Qn,RF⟩:=Nq vb.heap.size;rw[RF] at Q2 zb ⊢;rw[OG] at za zb ⊢;rw[<- za] at P2;rw[show w.heap.size+1+1=w.heap.size+2 from rfl];obtain⟨On,OF⟩:=Nq (w.heap.size+2);rw[OF] at O2 ⊢;have Wp:=ag OF.symm;have QQ:=ag za;have Wo:=ag zb;clear OG RF;have Vn:=H.2.1;obtain⟨p1,J9⟩:∃f:Pt,f=(λx=>if x<w.heap.size then p x else if x=On then 6 else 0):=⟨_,rfl⟩;have q1:∀x,x<w.heap.size->p1 x=p x:=λx hx=>by rw[J9];exact ZP hx
 have r1:∀x,w.heap.size<=x->x≠On->p1 x=0:=λx hx hn=>by rw[J9];show (if _ then _ else _)=_;rw[ZI ρa,ZI hn]
 have o1:p1 On=6:=σu;clear J9;have H1:aD p1 v1 z (IA+1) N y:=(H.part (λx hx _ _=>q1 x hx)).setClk kc Y3;have E1:cu p1 v1 On w []:=⟨_,O2,ae.nil _ _,o1,λx hx=>by cases hx⟩;have F':KO (λx=>p x≠0) w v1:=kc.mono τz;have b1:w.heap.size<=v1:=ρa;have pP1:=r1 Pn ρa ρa;have UM:=r1 Qn ρa ρa;have Re:=r1 (w+1) ρa ρa;clear Y0 kc Vn;replace z1:=ag z1;clear za zb OF;have cX:=X2.cell;have fX:=X2.frozen;have zX:=X2.size;have rQ:=Q2.r;replace Ss:=Y3.r;rw[N4] at Y3;have z1':=z1.out;have zz1:=QQ.out;have YF:=Wo.out;have zz3:=Wp.out;have PP:w+1≠Qn:=ρa;have gQ:w<=Qn:=ρa;have zO1:On<v1:=O2.size;clear z1' zz1 YF zz3;obtain⟨o,HS,ho⟩:=H1.sched;rw[Jd] at HS;obtain⟨ku,kb,kq,HK,-⟩:=H1.2.2.1;rw[Jd,htil] at HK;have zR2:=R2.size;have RK:decide ((0:Int)<=0)=true:=rfl;clear cX fX zX;have cX:=X2.cell;have fX:=X2.frozen;have zX:=X2.size;replace Ss:=Y3.r;go_upto_region 10 with (fail);go_region_held_law (λw'=>(∀j,w'.cell? ⟨z.Y,j,none⟩=#[pt z.a.S,pt z.K,pt z.B,pt z.S,ι υ 0,ι ε (IA+1)][j]?)/\(∀j,w'.cell? ⟨w,j,none⟩=#[ι ε 1,ζ ca cn cc,rv,ι υ pk.id,ι ε pk.len,ι ω pk.h0,ι ω pk.h1,ι ω pk.h2,ι ω pk.h3,ι υ tk][j]?)) (first|(with_reducible exact⟨ah.cell Y4,ah.cell X4⟩)|go_keep|exact⟨ah.cell (ah.drew Y3),ah.cell (ah.drew X2)⟩) ((first|(go_at_call 54;refine(wN z.K ku kb kq _ 0 _ (ah.drew HK) 0 true RK).mono ?_;rintro e u ⟨rfl,rfl⟩)|(go_at_call 53;refine(wm o z.a W9 Lm true (ζ ca cn cc) L2 Pn9 _ (HS.below ρE) (λw1 Tw=>hA w1 ((F'.step0 ρE).step0 Tw) ((aF.below HS.2.1 ρE).below Tw)) Lh JK hz).mono ?_;rintro e v2 ⟨i,n,rfl,Jq⟩;have KQ:KO (λx=>(o x).mine) v1 v2:=(by rcases Jq with ⟨_,_,_,kx⟩|⟨_,_,_,_,_,_,_,kx⟩;exact(KO.of_below ρE).trans (KO.of_below kx) (λ_ _ h=>h);exact(KO.of_below ρE).trans kx (λ_ _ h=>h));have Y4:ah v2 z.Y #[pt z.a.S,pt z.K,pt z.B,pt z.S,Ky,ι ε (IA+1)] 129:=Y3.ko KQ (λh=>by have:=(ho _ h).2;have:=H1.2.1;omega);have X4:=X2.ko KQ (λh=>by have:=(ho _ h).2;have:=r1 w ρa (by rw[Wp.out];omega);omega))));obtain⟨s',a',o',XQ,Pj,HS',eo⟩:∃s' a' o',((n≠0/\Pn9 n/\s'=fw W9 Lm [])\/(n=0/\Pn9 0/\s'=fw W9 Lm L2))/\a'.S=z.a.S/\ar o' v2 a' s'/\∀x,x<v1.heap.size->o' x=o x:=by
  rcases Jq with ⟨g1,g2,g3,_⟩|⟨g1,g2,o',a',g3,g4,g5,_⟩
  ·exact⟨_,z.a,o,.inl ⟨g1,g2.resolve_right (λg=>by cases g.2),rfl⟩,rfl,g3,λ_ _=>rfl⟩
  ·exact⟨_,a',o',.inr ⟨g1,g2,rfl⟩,g3,g4,g5⟩
 clear Jq;have hs9:s'.T=y.s.T/\s'.pks<=y.s.pks:=by rw[Jd];rcases XQ with ⟨_,_,rfl⟩|⟨_,_,rfl⟩<;>exact⟨rfl,by simp only[oN];exact ZJ _⟩
 have H2:=H1.setA Pj ho KQ HS' eo hs9.1 hs9.2;have E2:=(E1.more v1 5 (ZR _)).ko KQ σU;have R3:=R2.ko KQ (λh=>by have:=(ho _ h).2;omega);have Q3:=Q2.ko KQ (λh=>by have:=(ho _ h).2;omega);obtain⟨p2,Us⟩:=Nq (p1.more v1 5);rw[Us] at H2 E2;have NN:∀x,x<v1.heap.size->p2 x=p1 x:=λx hx=>by rw[<- Us];exact Pt.more_lt hx
 clear Us;have q2:∀x,x<w.heap.size->p2 x=p x:=λx hx=>(NN x ρa).trans (q1 x hx);have WS:p2 (w+1)=0:=(NN _ zR2).trans Re;have pQ2:p2 Qn=0:=(NN _ rQ.2.2).trans UM;have pO2:p2 On=6:=(NN _ zO1).trans o1;have Iz:KO (λx=>p x≠0) w v2:=F'.trans KQ (λx hx h=>by have:=(ho _ h).2;rw[q1 x hx] at this;omega);clear cX fX zX rQ HS HK H1 E1 R2 Q2 X2 X4 Y3 Y4;have rQ:=Q3.r;have zR3:=R3.size;go_upto_region 21 with (fail);refine gX v2 (λx=>x=Qn) (λu=>ah u Qn #[ι ε n,ι ε i,Kz] 93) ρB (λ_ kx=>kx) ?_;rintro v3 Q4 k3;have H3:=H2.ko k3 κf;have E3:=E2.ko k3 σq;have R4:=R3.ko k3 PP;have ID:=Iz.trans k3 (λx hx e=>ax e ρa);clear H2 E2 R3 Q3;obtain⟨ve,O9,G9,UL,Pw⟩:=E3;have qR:p2 (w+1)=0:=WS;have qO:p2 On=6:=UL;have nRO:On≠w+1:=λe=>by rw[e,qR] at qO;cases qO
 have nRQ:Qn≠w+1:=σY;obtain⟨ao,co,rfl⟩:=ae.slice G9;obtain⟨ln,Lw⟩:=Nq (([]:List EV).length);rw[Lw] at O9 G9 Pw;clear rQ;have rQ:=Q4.r;have cO:=O9.cell;have fO:=O9.frozen;have zO:=O9.size;have cR:=R4.cell;have fR:=R4.frozen;have zR:=R4.size;go_region
 all_goals
  go_wp2_with fail;refine eu v3 (λx=>x=w.heap.size+1) (λu=>ah u (w+1) #[ι ε n,ι ε i,Kz] 93) ρB (λ_ kx=>kx) ?_;rintro u Ru ku;clear rQ cO fO zO cR fR zR;have cR:=Ru.cell;refine ZO (v:=χ #[φ #[ι ε n,ι ε i,Kz],ζ ao ln co]) σR rfl ?_;refine⟨n,i,_,{z with a:=a'},λx=>if p2 x=6 then 0 else p2 x,s',rfl,rfl,XQ,λx hx=>?_,(show aD p2 u {z with a:=a'} (IA+1) N ⟨s',0,0,[]⟩ from by have g:=H3.ko ku τh;rw[htil,N4] at g;exact g).part (λx _ h1 h5=>ZI ρa),?_,λx hx=>?_,λx=>?_,ID.trans ku (λx hx e=>ax e ρa)⟩
  ·have e:=q2 x hx;have:=h6 x hx;show (if _ then _ else _)=_;rw[ZI κj,e]
  ·exact ae.ko G9 ku σn
  ·show (if _ then _ else _)=_;rw[ZP (Pw x hx)]
  ·show (if _ then _ else _)≠_;split;omega;assumption
theorem GU (T Lm:Int)(w:ϖ)(hT:1<=T/\T<=65536)(hL:1<=Lm/\Lm<=16384):Calls Ψ 29 #[φ #[ι ε T,ι ε Lm]] w λe w'=>∃z p,e=ϰ (χ #[pt z.Y,Kz])/\aD p w' z 0 0 ⟨fw T Lm [],0,0,[]⟩/\(∀x,x<w.heap.size->p x=0)/\(∀x,p x≠6)/\Below w w w':=by
 go_in;go_wp2_with fail;refine av w (λv=>Below w w v) (λv=>Below w w v/\ah v w #[ι ε T,ι ε Lm] 23) ρE (λkx=>⟨kx,ρB⟩) ?_;rintro v1 ⟨k1,C1⟩;refine(Ed T Lm v1 hT hL).mono ?_;rintro e v2 ⟨o,a,rfl,HS2,olow,kx⟩;have zC1:=C1.size;have z1:=k1.size;have z2:=kx.size;have C2:=C1.below kx zC1;have k2:Below w w v2:=k1.trans (kx.mono z1);have Rr:=C2.r;have YM:=HS2.own (o':=λx=>if x<v2.heap.size then o x else .no) (λx hx=>ZP hx);obtain⟨o1,N8⟩:∃f:aT,f=(λx=>if x<v2.heap.size then o x else .no):=⟨_,rfl⟩;rw[<- N8] at YM;have Wu:∀x,o1 x≠.no->v1.heap.size<=x/\x<v2.heap.size:=λx hx=>by
  have hx:(if x<v2 then o x else TG.no)≠.no:=by rw[N8] at hx;exact hx
  by_cases g:x<v2
  ·rw[ZP g] at hx;exact⟨by by_cases g2:x<v1;exact ax (olow x g2) hx;omega,g⟩
  ·rw[ZI g] at hx;exact ax rfl hx
 clear HS2 olow N8 kx;go_wp2_with fail;refine(Gf T _ hT).mono ?_;rintro e v3 ⟨rfl,kx,K3⟩;have z3:=kx.size;have HS4:=YM.below kx;have k3:=k2.trans (kx.mono ρa);have zK3:=K3.size;clear C2 YM kx;go_wp2_with fail;refine(BE Kn [] 0 _ (az.nil _) ρp).mono ?_;rintro e v4 ⟨u,n,rfl,kx,h4⟩;obtain⟨rfl,B2,fp,rfl,MZ,T4⟩:n=0/\∃B2 fp,u=ψ (some ⟨B2,0,none⟩)/\(∀x,fp x->v3.heap.size<=x)/\bI v4 B2 [] (eQ [] 0 [] []).1 (eQ [] 0 [] []).2 fp:=by
  rcases h4 with ⟨_,g⟩|g
  ·exact ax ⟨by simp,λr hr=>by simp at hr⟩ g
  ·exact g
 have z4:=kx.size;have HS5:=HS4.below kx;have K4:=K3.below kx zK3;have k4:=k3.trans (kx.mono ρa);have Wj:∀x,fp x->x<v4.heap.size:=by obtain⟨_,_,_,_,_,_,_,_,_,_,_,_,g⟩:=T4;exact g
 clear HS4 K3 h4 kx;go_wp2_with fail;refine(Fh _).mono ?_;rintro e v5 ⟨Sb,fs,rfl,Qj,Q5,kx⟩;have z5:=kx.size;obtain⟨HS6,K5,T5⟩:=Mw kx (θ3 HS5 K4 T4);have k5:=k4.trans (kx.mono ρa);have Vg:∀x,fs x->x<v5.heap.size:=by obtain⟨_,_,_,_,_,_,_,_,_,_,_,_,_,g⟩:=Q5;exact g
 clear HS5 K4 T4 kx;go_wp2_with fail;refine dW v5 (λu=>Below v5 v5 u) (λu=>Below v5 v5 u/\ah u v5 #[pt a.S,pt v2,pt B2,pt Sb,Ky,Kz] 129) ρE (λkx=>⟨kx,ρB⟩) ?_;rintro v6 ⟨k6,Y6⟩;refine ZO (v:=χ #[pt v5,Kz]) (by simp[results,Tryz.results29,go_sem,pt]) rfl ?_;have z6:=k6.size;have zY:=Y6.size;obtain⟨p,hp⟩:∃p:Pt,p=(λx=>if x<w.heap.size\/v6<=x then 0 else if x=v5 then 1 else if x=v2 then 2 else if v4<=x then 4 else if v3<=x then 3 else if x<v2 then 5 else 0):=⟨_,rfl⟩;have hw:w.heap.size<=v1:=ρa;have f1:p v5.heap.size=1:=by rw[hp];show (if _ then _ else _)=_;rw[ZI ρa,ZP rfl]
 have f2:p v2.heap.size=2:=by rw[hp];show (if _ then _ else _)=_;rw[ZI ρa,ZI ρa,ZP rfl]
 refine⟨⟨v5,v2,B2,Sb,a,([],(eQ [] 0 [] []).1,(eQ [] 0 [] []).2)⟩,p,rfl,⟨Y6,?_,⟨0,0,0,K5.below k6 K5.size,by omega,by rw[oN];omega,by omega,by omega,by omega,by omega⟩,?_,⟨fp,T5.below k6,λx hx=>?_⟩,⟨fs,Q5.below k6,λx hx=>?_⟩,o1,HS6.below k6,λx hx=>?_⟩,λx hx=>?_,λx=>?_,k5.trans (k6.mono ρa)⟩
 ·exact f1
 ·exact f2
 ·have h1:=MZ x hx;have h2:=Wj x hx;refine⟨by omega,?_⟩;rw[hp];show (if _ then _ else _)=_;rw[ZI ρa,ZI ρa,ZI ρa,ZI ρa,ZP ρa]
 ·have h1:=Qj x hx;have h2:=Vg x hx;rw[hp];show (if _ then _ else _)=_;rw[ZI ρa,ZI ρa,ZI ρa,ZP ρa]
 ·have h1:=Wu x hx;refine⟨by omega,?_⟩;rw[hp];show (if _ then _ else _)=_;rw[ZI ρa,ZI ρa,ZI ρa,ZI ρa,ZI ρa,ZP h1.2]
 ·rw[hp];show (if _ then _ else _)=_;rw[ZP (.inl hx)]
 ·rw[hp];show (if _ then _ else _)≠_;repeat (first|omega|split)
structure OI where
 (k:Int)
 (ch:List (Int × CD))
 (rl:List RL)
 (pk:PK)
 (tk:Int)
abbrev Ew (x:OI)(cv rv:ϗ):List ϗ:=[ι ε x.k,cv,rv,ι υ x.pk.id,ι ε x.pk.len,ι ω x.pk.h0,ι ω x.pk.h1,ι ω x.pk.h2,ι ω x.pk.h3,ι υ x.tk]
def jd (w:ϖ)(B:Nat)(x:OI)(cs:List ϗ):Prop:=∃cv rv,cs=Ew x cv rv/\az 15 pg w B cv x.ch/\az 9 pi w B rv x.rl
def iP (w:ϖ)(B:Nat)(v:ϗ)(L:List OI):Prop:=∃a IM,v=ζ a L.length IM/\L.length<=maxLen/\B<=w/\∀i x,L[i]?=some x->∃g II cs,a=some ⟨g,II,none⟩/\g<B/\jd w B x cs/\w.rangeAt g (II+i*10) cs
theorem jd.below {w v:ϖ} {B:Nat} {x:OI} {cs:List ϗ} (h:jd w B x cs)(k:Below B w v):jd v B x cs:=by obtain⟨cv,rv,e,h1,h2⟩:=h;exact⟨cv,rv,e,h1.belowK k (ZR _),h2.belowK k (ZR _)⟩
theorem iP.below {w v:ϖ} {B:Nat} {x:ϗ} {L:List OI} (h:iP w B x L)(k:Below B w v):iP v B x L:=by obtain⟨a,IM,h1,h2,h3,h4⟩:=h;refine⟨a,IM,h1,h2,ZK h3 k.size,λi x hi=>?_⟩;obtain⟨g,II,cs,e,hg,ho,hr⟩:=h4 i x hi;refine⟨g,II,cs,e,hg,ho.below k,λj u hj=>?_⟩;exact(k.cell (p:=⟨g,II+i*10+j,none⟩) hg).trans (hr j u hj)
def OI.clk (x:OI)(c:Int):Int:=if x.k=4 then (if x.tk<=4611686018427387904 - c then c+x.tk else c) else c
inductive kA (y0:YS):List OI->YS->Prop
 | nil:kA y0 [] y0
 | snoc {l:List OI} {x:OI} {y z:YS}:kA y0 l y->x.k≠1->jX (l.length+1) y z->z.clk=x.clk y.clk->kA y0 (l++[x]) z
theorem kA.ok {y0 y:YS} {l:List OI} (h:kA y0 l y)(h0:y0.Ok):y.Ok/\y.s.L=y0.s.L/\y.s.T=y0.s.T/\y.s.Lm=y0.s.Lm:=by
 induction h with
 | nil=>exact⟨h0,rfl,rfl,rfl⟩
 | snoc _ _ hs _ ih=>obtain⟨g1,_,g2,g3,g4⟩:=hs.ok ih.1;exact⟨g1,g2.trans ih.2.1,g3.trans ih.2.2.1,g4.trans ih.2.2.2⟩
def eD (T Lm:Int)(st:YS->Prop):List OI->YS->Prop
 | [],y=>y=⟨fw T Lm [],0,0,[]⟩
 | _::l,y=>∃y0,st y0/\kA y0 l y
theorem eD.snoc {T Lm:Int} {st:YS->Prop} {x0 x:OI} {l:List OI} {y z:YS} (h:eD T Lm st (x0::l) y)(hk:x.k≠1)(hs:jX (l.length+1) y z)(hc:z.clk=x.clk y.clk):eD T Lm st ((x0::l)++[x]) z:=by obtain⟨y0,h1,h2⟩:=h;exact⟨y0,h1,h2.snoc hk hs hc⟩
structure OI.fine (x:OI):Prop where
 tk:0<=x.tk/\x.tk<=Ma
 rl:x.rl.length<=1000
open Go.Lib in
theorem jx {α:Type} {e:TypeId} {n:Nat} {enc:α->List ϗ} {st:TypeId} {by_:Nat} {z:ϗ} (hu:Ψ.underlying st=some (.slice e))(OM:(Ψ.info? e).map (λi=>(i.zero,i.size,i.bytes))=some (some z,n,by_))(hz:z.cells.size=n)(hn:∀x,(enc x).length=n)(h1:∀x,∀u ∈ enc x,u.oneCell'=true)(Kv:0<n)(XO:by_<=1000)
  {w:ϖ} {IA:Array Oper} {rest:List Oper} {o:Oper} {a:Act} {Q:Exit->Act->ϖ->Prop} (Ld:o.guard=none) (sl x:Operand)
  (ho:o.op=.call {callee:=.builtin .append,args:=#[sl,x],argTypes:=#[st,st]})
  (base B:Nat) (v y:ϗ) (s L:List α) (hs:a.eval sl=v) (hx:a.eval x=y) (h:ae e n enc w base v s) (hR:az n enc w B y L) (Kw:s.length+L.length<=1000000) (LQ:base<=w)
  (hk:∀v' w',ae e n enc w' base v' (s++L)->KO (λx=>some x=v.ownBlock) w w'->(∀x,some x=v'.ownBlock->some x=v.ownBlock\/w.heap.size<=x)->wpList Ψ IA Q rest (a.put o.dst v') w'):wpList Ψ IA Q (o::rest) a w:=by
 refine wpList_plain Ld λK hK=>?_;obtain⟨i,hi,q⟩:=Option.map_eq_some_iff.1 OM;simp only[Prod.mk.injEq] at q;obtain⟨ya,IM,rfl,hm,hB,QR,Lq⟩:=hR;cases ya with
 | none=>
  obtain⟨rfl,rfl⟩:=QR rfl;have hr:(Builtin.append_ #[st,st] o.type #[v,Kn]).run Ψ w=.ok v w:=by
   rcases h.2 with ⟨rfl,_⟩|⟨g,IM,Lp,rfl,hg,hh,hc,hm,Ja,ht⟩
   ·simp[Builtin.append_,run_underlying hu,Result.andThen,go_sem,sizeOf,typeInfo,hi]
   ·have:s.length+0<=IM:=by omega
    simp[Builtin.append_,run_underlying hu,Result.andThen,go_sem,sizeOf,typeInfo,hi,hc]
  unfold Oper.wp execOp;simp only[ho,resolve,invoke,builtin,Sem.run_bind,Sem.run_pure,Result.andThen_ok,List.map_toArray,gY,List.map_nil,hs,hx,List.length_nil,hr];exact hK _ _ (hk _ _ (by rw[ZA];exact h) (KO.refl _ _) (λx hx=>.inl hx))
 | some ad=>
  obtain⟨v',w',hr,h2,h3,_,h5⟩:=run_append_own_at (P:=Ψ) w base st o.type e i z n by_ hu hi q.1 q.2.1 q.2.2 hz Kv v s.length (s.flatMap enc) h ad L.length IM (L.flatMap enc) (f7 hn L) (λj u hj=>by
   have IX:L≠[]:=λe=>by rw[e] at hj;simp at hj
   obtain⟨g,II,e,hg,hA⟩:=Lq IX;cases e
   rw[Addr.add_mid];exact yL.flat hn Kv hA j u hj) σK σ1 κk LQ
  unfold Oper.wp execOp;simp only[ho,resolve,invoke,builtin,Sem.run_bind,Sem.run_pure,Result.andThen_ok,List.map_toArray,gY,List.map_nil,hs,hx,hr];refine hK _ _ (hk v' w' ?_ ⟨h3.os,h3.tape,h3.output,h3.size,λk hk IX=>h3.block k hk IX⟩ τF);unfold ae;rw[ZL,List.flatMap_append];exact h2
theorem eX.len {op:Int} {y z:YS} (hp:eX op y z)(h:y.Ok0):(z.ev.length:Int)+z.s.pks=y.ev.length+y.s.pks:=by
 cases hp with
 | busy _=>rfl
 | idle _ _=>rfl
 | @pick i x c xs p r hb Jq hc hq hu=>obtain⟨_,_,T,_⟩:=h.pick Jq hc hq hu;have:=(T.bys h.num ((fg h.inv.lok).2 ⟨c,hc⟩) hq).2;simp only[ZL,mM,List.length_nil];omega
theorem bP.len {op stop:Int} {y z:YS} (hr:bP op stop y z)(h:y.Ok)(hs:stop<=4611686018427387904):(z.ev.length:Int)+z.s.pks=y.ev.length+y.s.pks:=by
 induction hr with
 | done _=>rfl
 | @next y z t hn hp _ ih=>have ha:=h.at_next hs hn;exact(ih (hp.ok ha).1).trans (hp.len ha)
theorem jX.len {op:Int} {y z:YS} (hs:jX op y z)(h:y.Ok):(z.ev.length:Int)+z.s.pks<=y.ev.length+y.s.pks+2:=by
 cases hs with
 | nothing=>omega
 | refused hn e IX=>
  rcases cf h.inv.ec hn e with ⟨_,rfl|⟨rfl,_⟩⟩|⟨g,_⟩
  ·show (y.ev.length:Int)+y.s.pks<=_;omega
  ·show (y.ev.length:Int)+y.s.pks<=_;omega
  ·exact ax g IX
 | @packet i p xs s' z hP e hp=>
  have I:=h.inv.put hP e;have hn:xs.Nodup\/fc y.s.L i=none:=by
   cases hc:fc y.s.L i with
   | none=>exact .inr rfl
   | some c=>exact ηM
  rcases hn with hn|hn
  ·rcases cf h.inv.ec hn e with ⟨g,_⟩|⟨_,c,F⟩
   ·exact ax rfl g
   ·have P:=hP c F.cls.1;refine δn ?_;intro N O;have:=hp.len O;have Vm:=(F.bys h.num ((fg h.inv.lok).2 ⟨c,F.cls.1⟩)).2;simp only[ZL,mM,List.length_nil] at this;omega
  ·exact ηc
 | adv h0 h1 hr=>have:=hr.len h h1;omega
theorem kA.len {y0 y:YS} {l:List OI} (h:kA y0 l y)(h0:y0.Ok)(he:(y0.ev.length:Int)+y0.s.pks<=0):(y.ev.length:Int)+y.s.pks<=2*l.length:=by
 induction h with
 | nil=>simpa using he
 | snoc hr _ hs _ ih=>have:=hs.len (hr.ok h0).1;rw[ZL,rq];omega
def mz (T Lm:Int)(L2:List CD)(Pn:Int->Prop)(y0:YS):Prop:=(∃n,n≠0/\Pn n/\y0=⟨fw T Lm [],0,0,[]⟩)\/(Pn 0/\y0=⟨fw T Lm L2,0,0,[]⟩)
structure mJ (w:ϖ) (B:Nat) (T:Int) (x0:OI) (L2:List CD) (Pn:Int->Prop):Prop where
 k:x0.k=1
 len:L2.length<=900
 lf:∀c ∈ L2,c.lf=true->(1<=c.pk/\c.pk<=64)/\(1<=c.by_/\c.by_<=1048576)
 nz:fc L2 0=none
 app:∀cv,az 15 pg w B cv x0.ch->∀Tb Mb w1,Below w w w1->aF w1 Tb Mb []->Calls Ψ 76 #[Tb,ι ε T,cv] w1 λe w'=>∃u i n,e=ϰ (χ #[u,ι ε i,ι ε n])/\Pn n/\(n=0->∃T' M',u=ψ (some ⟨T',0,none⟩)/\w1.heap.size<=T'/\w1.heap.size<=M'/\aF w' T' M' L2)/\Below w1 w1 w'
theorem DH (T Lm:Int)(x0:OI)(r:List OI)(L2:List CD)(Pn:Int->Prop)(w0:ϖ)(B:Nat)(F:mJ w0 B T x0 L2 Pn)(Jo:∀y0,mz T Lm L2 Pn y0->y0.Ok)(IS:(x0::r).length<=1000)(hr:∀x ∈ r,x.k≠1/\x.fine)
  (dn rest:List OI) (x:OI) (Mu:x0::r=dn++x::rest) (p:Pt) (z:SA) (y:YS) (w:ϖ) (H:aD p w z dn.length (2*dn.length) y) (hR:eD T Lm (mz T Lm L2 Pn) dn y) (h6:∀x,p x≠6) (cs:List ϗ) (Ui:jd w0 B x cs) (hO:jd w B x cs) (LY:∀x,x<w0.heap.size->p x=0) (hB:B<=w0) (hw:Below w0 w0 w):Calls Ψ 30 #[pt z.Y,φ cs.toArray] w λe w'=>∃a b c v z' p' y' l',e=ϰ (χ #[φ #[ι ε a,ι ε b,ι ε c],v])/\z'.Y=z.Y/\eD T Lm (mz T Lm L2 Pn) (dn++[x]) y'/\(∀x,x<w.heap.size->p' x=p x)/\aD p' w' z' (dn.length+1) (2*dn.length+2) y'/\cD w' w v l'/\(∀x,some x=v.ownBlock->p' x=0)/\(∀x,p' x≠6)/\y'.ev=y.ev++l'/\KO (λx=>p x≠0) w w':=by
 have Lw:dn.length<=1000:=by have:=ZG List.length Mu;simp at this IS;omega
 have Vk:∀x,x<w.heap.size->p x≠6:=λx _=>h6 x;cases dn with
 | nil=>
  have hx:x0=x:=by simpa using (List.cons.inj Mu).1
  subst hx;have hy:y=⟨fw T Lm [],0,0,[]⟩:=hR;subst hy;obtain⟨cv,rv,rfl,g1,g2⟩:=Ui;obtain⟨a,IM,Ve,_⟩:=g1.slice;have Vh:=F.k;obtain⟨xk,xch,xrl,xpk,xtk⟩:=x0;simp only at Vh;subst Vh;refine δQ ?_;rintro e w' ⟨n,i,v,z',p',s',rfl,e1,hc,e2,H',G',e3,e4,k'⟩;refine⟨n,i,0,v,z',p',⟨s',0,0,[]⟩,[],rfl,e1,⟨⟨s',0,0,[]⟩,?_,.nil⟩,e2,H'.mono ρa,G',e3,e4,rfl,k'⟩;exact ηT
 | cons x1 dn=>
  obtain⟨JT,Nd⟩:=List.cons.inj Mu;subst JT;obtain⟨hk,hf⟩:=hr x (by rw[Nd];simp);have hy:y.Ok:=by obtain⟨y0,h1,h2⟩:=hR;exact(h2.ok (Jo y0 h1)).1
  obtain⟨cv,rv,rfl,g1,g2⟩:=hO;have fin:∀{w':ϖ} {a b c:Int} {v:ϗ} {z':SA} {p':Pt} {y':YS} {l':List EV},z'.Y=z.Y->jX ((dn.length:Int)+1) y y'->(∀x,x<w.heap.size->p' x=p x)->aD p' w' z' (((x0::dn).length:Int)+1) (2*(x0::dn).length+2) y'->cD w' w v l'->(∀x,some x=v.ownBlock->p' x=0)->(∀x,p' x≠6)->y'.ev=y.ev++l'->KO (λx=>p x≠0) w w'->y'.clk=x.clk y.clk->
    ∃a' b' c' v' z' p' y' l',(Ending.returned (χ #[φ #[ι ε a,ι ε b,ι ε c],v])=ϰ (χ #[φ #[ι ε a',ι ε b',ι ε c'],v']))/\z'.Y=z.Y/\eD T Lm (mz T Lm L2 Pn) (x0::dn++[x]) y'/\(∀x,x<w.heap.size->p' x=p x)/\aD p' w' z' (((x0::dn).length:Int)+1) (2*(x0::dn).length+2) y'/\cD w' w v' l'/\(∀x,some x=v'.ownBlock->p' x=0)/\(∀x,p' x≠6)/\y'.ev=y.ev++l'/\KO (λx=>p x≠0) w w':=
   λe1 e2 e3 e4 e5 e6 e7 e8 e9 Ph=>⟨_,_,_,_,_,_,_,_,rfl,e1,hR.snoc hk e2 Ph,e3,e4,e5,e6,e7,e8,e9⟩
  have Po:0<=((x0::dn).length:Int)/\((x0::dn).length:Int)<=100000:=ρa;have JY:(((x0::dn).length:Nat):Int)=(dn.length:Int)+1:=ρp;by_cases k2:x.k=2
  ·refine(show Calls _ _ _ _ _ from by
    have:=FK p z _ _ y cv rv x.pk x.tk x.rl B w H hy Vk Po ρa g2 hf.rl (λx hx=>LY x ρa);rw[<- k2] at this;exact this).mono ?_
   exact ηH
  by_cases k3:x.k=3
  ·refine(show Calls _ _ _ _ _ from by
    have:=FL p z _ _ y cv rv x.pk x.tk w H hy Vk Po ρa;rw[<- k3] at this;exact this).mono ?_
   exact ηH
  by_cases k4:x.k=4
  ·refine(show Calls _ _ _ _ _ from by
    have:=FM p z _ _ y cv rv x.pk x.tk w H hy Vk Po ρa hf.tk;rw[<- k4] at this;exact this).mono ?_
   rintro e w' ⟨a,b,c,v,z',p',y',l',rfl,e1,e2,e3,e4,e5,e6,e7,e8,_,e9,Ph,_⟩;exact fin e1 (JY ▸ e2) e3 e4 e5 e6 e7 e8 e9 (by rw[Ph];unfold OI.clk;rw[ZP k4])
  ·refine(FJ p z _ _ y x.k cv rv x.pk x.tk w H hy Vk Po ρa ⟨hk,k2,k3,k4⟩).mono ?_;rintro e w' ⟨a,b,c,v,z',p',y',l',rfl,e1,e2,e3,e4,e5,e6,e7,e8,_,e9,Ph,_⟩;exact fin e1 (JY ▸ e2) e3 e4 e5 e6 e7 e8 e9 (by rw[Ph];unfold OI.clk;rw[ZI k4])
end Go.Proofs.YtfdlemkplejdnaaGreat
