/- WholeBehind, part 20. Conditions: none. -/
import Derived.Test.YtfdlemkplejdnaaGreatA13
import Derived.Test.YtfdlemkplejdnaaGreatA17
import Derived.Lib.SliceRun
namespace Go.Proofs.YtfdlemkplejdnaaGreat
open Go.RowKit Go.Sort
open Value renaming int->ι,pointer->ψ,slice->ζ,tuple->χ,agg->φ,map->μ,bool->β
open IntKind renaming u64->υ,i64->ε,u16->ω
open Ending renaming returned->ϰ
open Go.Proofs.Tryz renaming prog->Ψ,underlying3->Θ,underlying147->Δ,underlying152->Γ,underlying202->Φ,underlying39->Ξ,underlying207->Ω
open Go renaming World->ϖ,Value->ϗ
set_option linter.unusedVariables false
set_option linter.unusedSimpArgs false
set_option maxHeartbeats 8000000
set_option maxRecDepth 100000
abbrev fo (c:CD):List ϗ:=[ι υ c.r0,ι υ c.r1,ι υ c.r2]
theorem lp:(Ψ.info? 41).map (λi=>(i.zero,i.size,i.bytes))=some (some (φ (aP 0 0 0)),3,24):=by kernel_rfl
theorem wG (c:CD)(v:ϖ):(Instr.field 43 (φ (fx c)) 3).run Ψ v=.ok (φ (aP c.r0 c.r1 c.r2)) v:=by first|kernel_rfl|rfl|(simp[Instr.field,go_sem,Result.andThen];done)
theorem zW {L:List CD} {c:CD} (h:c ∈ L):∃d,fc L c.id=some d:=by
 induction L with
 | nil=>cases h
 | cons a r ih=>
  unfold fc;split
  ·exact⟨_,rfl⟩
  ·rename_i IX;rcases ZC.1 h with rfl|h
   ·exact ax rfl IX
   ·exact ih h
theorem mU {p:CD->Bool} {L:List CD} {x:Int}:x ∈ aN p L↔∃c ∈ L,p c=true/\c.id=x:=by
 unfold aN;rw[List.Perm.mem_iff (List.mergeSort_perm _ _),List.mem_map];constructor
 ·rintro⟨c,hc,rfl⟩;exact⟨c,(List.mem_filter.1 hc).1,(List.mem_filter.1 hc).2,rfl⟩
 ·rintro⟨c,h1,h2,rfl⟩;exact⟨c,List.mem_filter.2 ⟨h1,h2⟩,rfl⟩
theorem ig {p:CD->Bool} {L:List CD} {x:Int} (h:x ∈ aN p L):∃c,fc L x=some c:=by obtain⟨c,hc,_,rfl⟩:=mU.1 h;exact zW hc
theorem Cw (T M:Nat)(L:List CD)(w:ϖ)(H:aF w T M L)(hL:L.length<=1000):Calls Ψ 109 #[T] w λe w'=>∃v,e=ϰ v/\ae 41 3 fo w' w v ((aN (λc:CD=>cW (kd c.r0 c.r1 c.r2)) L).map (di L))/\Below w w w':=by
 go_in;have zT:=H.1.size;have zM:=H.2.1.size;have Jo:=H.2.2;go_wp2_with fail;refine(ou T M L (λc=>cW (kd c.r0 c.r1 c.r2)) 118 #[] w H hL (enters_of Tryz.func118 ρh rfl) (λc hc v _=>rb v c.id c.par c.lf c.r0 c.r1 c.r2 c.l0 c.l1 c.l2 c.u0 c.u1 c.u2 c.pk c.by_ (Jo c hc).2.2.1 _ rfl)).mono ?_;rintro e v1 ⟨u,rfl,G1,kx⟩;obtain⟨ids,Kf⟩:=Nq (aN (λc:CD=>cW (kd c.r0 c.r1 c.r2)) L);rw[Kf] at G1;have IS:ids.length<=1000:=by rw[<- Kf,aN,List.length_mergeSort,pf];have:=ZH (λc:CD=>cW (kd c.r0 c.r1 c.r2)) L;omega
 have Qk:∀y ∈ ids,∃c,fc L y=some c:=by rw[<- Kf];exact λy hy=>ig hy
 have T1:=H.below kx;replace Kf:=ag Kf;obtain⟨oa,oc,rfl⟩:=G1.slice;obtain⟨n,hn⟩:=Nq ids.length;rw[hn] at G1 IS ⊢;have zg:∀x,some x=(Value.slice oa n oc).ownBlock->x<v1.heap.size:=λx hx=>(G1.own_ge x hx.symm).2;have z1:=kx.size;go_wp2_with fail;go_loopw [3,9] (λo k wr=>∃(a b:List Int),k=ι ε (a.length:Nat)/\ids=a++b/\ae 41 3 fo wr v1 o (a.map (di L))/\HI wr w (ζ oa n oc) ids/\aF wr T M L/\KO (λ_=>False) v1 wr) (λ_ k _=>n - (intOf k).toNat);case atStart=>exact⟨[],ids,rfl,rfl,ae.nil _ _,G1,T1,KO.refl _ _⟩
 case round=>
  obtain⟨a,b,rfl,IF,H0,G0,T0,IB⟩:=hrel;have zw:=IB.size;have IK:a.length+b.length=n:=ρy;obtain⟨cs,KD⟩:=Nq (a.map (di L));have Uk:cs.length=a.length:=by rw[<- KD,pf]
  rw[KD] at H0;obtain⟨ob,oe,rfl⟩:=H0.slice;obtain⟨q,hq⟩:=Nq a.length;rw[hq] at IK ⊢;cases b with
  | nil=>
   refine η8 ?_;intro IJ hd;have ha:a=ids:=ρN;clear IF;change Hid _ at IK hn hq Uk KD ha;go_wp2;go_ret;refine⟨_,rfl,?_,kx.trans ((IB.step0 ρE).toBelow.mono z1)⟩;have S:=(H0.below ρE).base_le z1;rw[<- KD.out,ha.out] at S;rw[Kf.out]
   first|exact S|(rw[<- KD.out,ha.out];exact S)
  | cons x r=>
   refine δb ?_;intro IJ hd;have Lz:ids[q]?=some x:=ρF;have IX:ids≠[]:=ρR;obtain⟨c,hc⟩:=Qk x ρR;obtain⟨Tz,MX,g0,e0,JA,e1,_⟩:=ae.at G0 (λ_=>rfl);have e1:=e1 IX;obtain⟨rfl,-,rfl⟩:=ZV e0;subst e1;obtain⟨cx,gx,bx⟩:=HI.cell G0 q x Lz;have KL:q<n:=ρa;have Tr:cs.length<=1000:=ρa;change Hid _ at IF hq hn JA IK KD Uk;have hc0:=ag hc;obtain⟨T2,M2,_⟩:=id T0;have cT:=T2.cell;have fT:=T2.frozen;have l1:=(eW M2 hc).2;have hfd:=λv=>wG c v;go_wp2_with (refine au Tryz.underlying115 lp rfl (λ_=>rfl) τG ρf ρf rfl (.tmp 13) (.tmp 21) rfl v1 (ζ ob cs.length oe) cs c wr (aP c.r0 c.r1 c.r2) rfl ρr ρr (H0.below ρE) ρB ρa ρJ ?_;intro o4 v4 H4 kx;replace kx:=kx.of_alloc;have T4:=T0.ko kx (ae.notown H0 ρa) (ae.notown H0 ρa);have G4:=G0.ko kx (λx _ hx h=>ae.notown H0 (zg x hx) h);have IC:KO (λ_=>False) v1 v4:=IB.trans kx (by intro y hy h;exact ax h (ae.notown H0 hy));have UT:=IC.size);go_roundw;case rel=>exact⟨a++[x],r,by rw[ZL,hq.out];go_num,by rw[IF.out];simp,by rw[List.map_append,KD.out,gY,List.map_nil,show di L x=c by simp[di,hc0.out]];exact ae.below H4 ρE,ae.below G4 ρE,T4.below ρE,IC.step0 ρE⟩
   case measure=>exact ξc
theorem jP {P:Program} {w:ϖ} (t x ty e:TypeId)(i:TypeInfo)(z:ϗ)(k:IntKind)(ht:P.underlying t=some (.slice e))(hx:P.underlying x=some (.int k))(hi:P.info? e=some i)(hz:i.zero=some z)(n:Nat)(h0:0<n)(h1:n<=1000)(hb:i.bytes<=1000)(hs:0<i.size):
  ∃cs,cs=Builtin.zeroCells z.cells n++Builtin.zeroCells z.cells (grownCap w n 0 e - n)/\(Builtin.append_ #[t,x] ty #[Kn,ι ε n]).run P w=.ok (ζ w n (grownCap w n 0 e)) (w.drew.alloc (.cells cs e)):=by
 have hn:n≠0:=ρa;have hw:IntKind.i64.wrap (n:Int)=n:=IntWalk.i64_in _ ⟨by omega,by omega⟩;have h63':¬(Mb<(n:Int)):=ρa;have hm:n*i.bytes<=1000*1000:=Nat.mul_le_mul h1 hb;have h48':¬(281474976710656<Builtin.nextslicecap n 0*i.bytes):=by rw[nextslicecap_zero h0];omega
 have h49:¬(281474976710656<(n:Int)*(i.bytes:Int)):=by have:((n*i.bytes:Nat):Int)<=1000000:=ρa;rw[Int.natCast_mul] at this;omega
 have hns:¬(n*i.size=0):=Nat.mul_ne_zero hn ρa;refine⟨_,rfl,?_⟩;have hg:¬((n:Int)<0):=ρa;have hg2:¬((n:Int)<=0):=ρa;have Yc:max (n:Int) 0=n:=ρa;have ha:(asIntOf (Value.int .i64 (n:Int))).run P w=.ok (.i64,(n:Int)) w:=by first|rfl|simp[asIntOf]
 simp[ha,hg,hg2,Yc,Builtin.append_,run_underlying ht,run_underlying hx,sizeOf,typeInfo,zeroValue,hi,hz,Builtin.lenOf,hn,hw,h63',h48',h49,hns,Question.forced,run_firstCells_none,newRow,grownCap,asInt]
open Go.Lib in
theorem gT {α:Type} {e:TypeId} {n:Nat} {enc:α->List ϗ} {st:TypeId} {by_:Nat} {z:ϗ} (hu:Ψ.underlying st=some (.slice e))(OM:(Ψ.info? e).map (λi=>(i.zero,i.size,i.bytes))=some (some z,n,by_))(hz:z.cells.size=n)(hn:∀x,(enc x).length=n)(h1:∀x,∀u ∈ enc x,u.oneCell'=true)(Kv:0<n)(XO:by_<=1000)
  {w:ϖ} {IA:Array Oper} {rest:List Oper} {o:Oper} {a:Act} {Q:Exit->Act->ϖ->Prop} (Ld:o.guard=none) (sl x:Operand)
  (ho:o.op=.call {callee:=.builtin .append,args:=#[sl,x],argTypes:=#[st,st]})
  (base XA:Nat) (v1 v:ϗ) (L1 L:List α) (hs:a.eval sl=v1) (hx:a.eval x=v) (h1':ae e n enc w base v1 L1) (h:ae e n enc w XA v L) (hsz1:L1.length<=1000000) (Kw:L.length<=1000000) (LQ:base<=w)
  (hk:∀v' w',ae e n enc w' base v' (L1++L)->KO (λx=>some x=v1.ownBlock) w w'->(v'.ownBlock=v1.ownBlock\/v'.ownBlock=some w)->wpList Ψ IA Q rest (a.put o.dst v') w'):wpList Ψ IA Q (o::rest) a w:=by
 refine wpList_plain Ld λK hK=>?_;obtain⟨i,hi,q⟩:=Option.map_eq_some_iff.1 OM;simp only[Prod.mk.injEq] at q;obtain⟨a1,c1,e1⟩:=h1'.slice;rcases h with ⟨hl,⟨rfl,h0⟩|⟨g,IM,Lp,rfl,hg,hh,hc,hm,Ja,ht⟩⟩
 ·have hL:L=[]:=List.length_eq_zero_iff.1 h0;subst hL;have NE:L1.length<=c1:=by
   rcases h1'.2 with ⟨e2,e3⟩|⟨g,IM,Lp,e2,_,_,e3,_⟩
   ·have:=ZV (e1.symm.trans e2);omega
   ·have:=ZV (e1.symm.trans e2);omega
  have hr:(Builtin.append_ #[st,st] o.type #[v1,Kn]).run Ψ w=.ok v1 w:=by
   subst e1;cases a1 with
   | none=>simp[Builtin.append_,run_underlying hu,Result.andThen,go_sem,sizeOf,typeInfo,hi,Builtin.lenOf,Builtin.firstCells,NE]
   | some a1=>simp[Builtin.append_,run_underlying hu,Result.andThen,go_sem,sizeOf,typeInfo,hi,Builtin.lenOf,Builtin.firstCells,NE,storeCells]
  refine δd ?_;exact hK _ _ (hk _ _ (by rw[ZA];exact h1') (KO.refl _ _) (.inl rfl))
 ·have hHold:ae e n enc w XA (ζ g L.length IM) L:=⟨hl,.inr ⟨g,IM,Lp,rfl,hg,hh,hc,hm,Ja,ht⟩⟩;have hat':∀t u,(L.flatMap enc)[t]?=some u->w.cell? ⟨g,0+t,none⟩=some u:=by
   intro t u htu;have ML:w.cell? ⟨g,0+t,none⟩=Lp[t]?:=by simp[World.cell?,hh]
   rw[ML,<- Array.getElem?_toList];have htl:=(List.getElem?_eq_some_iff.1 htu).1;rw[f7 hn] at htl;rw[<- ht,List.getElem?_take_of_lt htl] at htu;exact htu
  obtain⟨v',w',hr,h2,h3,_,h5⟩:=run_append_own_at (P:=Ψ) w base st o.type e i z n by_ hu hi q.1 q.2.1 q.2.2 hz Kv v1 L1.length (L1.flatMap enc) h1' ⟨g,0,none⟩ L.length IM (L.flatMap enc) (f7 hn L) (λj u hj=>by rw[Addr.add_mid];exact hat' j u hj) σK σ1 (by have:(L1.length+L.length)*by_<=(L1.length+L.length)*1000:=Nat.mul_le_mul_left _ XO;omega) LQ
  refine δd ?_;refine hK _ _ (hk v' w' ?_ ⟨h3.os,h3.tape,h3.output,h3.size,λk hk IX=>h3.block k hk IX⟩ h5);unfold ae;rw[ZL,List.flatMap_append];exact h2
theorem tC {st1 st2:TypeId} {w w':ϖ} {IA:Array Oper} {rest:List Oper} {o:Oper} {a:Act} {Q:Exit->Act->ϖ->Prop} (Ld:o.guard=none)(sl x:Operand)(ho:o.op=.call {callee:=.builtin .append,args:=#[sl,x],argTypes:=#[st1,st2]})
  (v1 v2 v:ϗ) (hs:a.eval sl=v1) (hx:a.eval x=v2) (hr:(Builtin.append_ #[st1,st2] o.type #[v1,v2]).run Ψ w=.ok v w') (h:wpList Ψ IA Q rest (a.put o.dst v) w'):wpList Ψ IA Q (o::rest) a w:=by
 refine wpList_plain Ld λK hK=>?_;refine δd ?_;exact hK _ _ h
theorem Eo:∃i,Ψ.info? 3=some i/\i.zero=some (ι ε 0)/\i.size=1/\i.bytes=8:=by obtain⟨i,hi,q⟩:=Option.map_eq_some_iff.1 bD;simp only[Prod.mk.injEq] at q;exact⟨i,hi,q⟩
theorem Dg (w:ϖ):CB 146 #[Kn,Kz] w Kn:=ξV
theorem Fg (n:Nat)(w:ϖ)(h0:0<n)(h1:n<=1000):Calls Ψ 146 #[Kn,ι ε n] w λe w'=>∃v,e=ϰ v/\HI w' w v []/\Below w w w':=by
 obtain⟨i,hi,hz,hs,hb⟩:=Eo;obtain⟨cs,KD,Km⟩:=jP (P:=Ψ) (w:=w) 45 3 45 3 i _ .i64 Tryz.underlying45 Θ hi hz n h0 h1 ρa ρa;have Tr:=grownCap_ge w n 0 3;have hc2:=grownCap_le_maxLen w n 0 3 σ1;obtain⟨c,hc⟩:=Nq (grownCap w n 0 3);rw[hc] at Km KD Tr hc2;have Kw:cs.size=c:=by rw[KD];simp[Builtin.zeroCells,Value.cells];omega
 have d1:=df ((n:Int)<0);have d2:=dt ((0:Int)<(n:Int));have d3:IntKind.i64.wrap ((n:Int) - 0)=n:=IntWalk.i64_in _ ⟨by omega,by omega⟩;clear hc KD hi hz hs hb;go_in;go_wp2_with (refine tC rfl (.tmp 20) (.tmp 21) rfl _ _ _ ρr ρr Km ?_);go_ret;exact⟨_,rfl,⟨by simp,.inr ⟨w,c,cs,rfl,ZR _,(show ah _ _ cs 3 from ρB),Nat.zero_le _,hc2,by omega,by simp⟩⟩,ρE⟩
theorem Dh (n:Nat)(w:ϖ)(h1:n<=1000):Calls Ψ 146 #[Kn,ι ε n] w λe w'=>∃v,e=ϰ v/\HI w' w v []/\Below w w w':=by
 by_cases h0:n=0
 ·subst h0;exact(Dg w).mono λe w' ⟨h1,h2⟩=>⟨_,h1,ae.nil _ _,h2⟩
 ·exact Fg n w ρa h1
theorem AP (X:Nat)(v1 v2:ϗ)(b1 b2:Nat)(ys:List Int)(w:ϖ)(H1:HI w b1 v1 [])(H2:HI w b2 v2 ys)(hy:ys.length<=1000)(hX:ah w X #[v1,v2] 45):Calls Ψ 110 #[ζ X 2 2] w λe w'=>∃v,e=ϰ v/\HI w' w v ys/\Below w w w':=by
 obtain⟨oa,oc,rfl⟩:=H1.slice;obtain⟨ob,od,rfl⟩:=H2.slice;have hX2:=hX;obtain⟨n,hn⟩:=Nq ys.length;simp only[List.length_nil] at hX H1;rw[hn] at H2 hX hy;clear hX2;have Rr:=hX.r;have w1:IntKind.i64.wrap (n:Int)=n:=IntWalk.i64_in _ ⟨by omega,by omega⟩;have d1:=df ((n:Int)<0);have zX0:=hX.size;have hv2:∀x,some x=(Value.slice ob n od).ownBlock->x<w.heap.size:=λx hx=>(H2.own_ge x hx.symm).2;replace hn:=ag hn;go_in;go_wp2_with fail;refine wp_loop_rounds 3 ?_;rw[cV];go_wp2_with fail;rw[cV];go_wp2_with fail;rw[cV];go_wp2_with fail;refine(Dh n _ hy).mono ?_;rintro e u ⟨nv,rfl,G,kx⟩;have zu:=kx.size;have G1:HI u w nv []:=ae.base_le G ρp;have b0:Below w w u:=Below.trans ρE (kx.mono ρp);have X1:=ah.below hX b0 hX.size;have TH:=ae.below H1 b0;have Xm:=ae.below H2 b0;replace Rr:=X1.r;clear kx G hX H1 H2;go_wp2_with fail;refine wp_loop_rounds 3 ?_;rw[cV];go_wp2_with (refine gT Tryz.underlying45 bD rfl (λ_=>rfl) ρI ρf ρf rfl (.tmp 31) (.tmp 32) rfl w b1 _ _ [] [] ρr ρr (ae.below G1 ρE) (ae.below TH ρE) ρp ρp (by have:=b0.size;simp;omega) ?_;intro y1 u1 G2 kx _);have b1':Below w w u1:=b0.trans (kx.below zu (λk hk e=>ae.notown G1 hk e));have X2:=X1.ko kx (ae.notown G1 zX0);have H22:=ae.ko Xm kx (λx _ hx e=>ae.notown G1 (hv2 x hx) e);have zu1:=kx.size;replace Rr:=X2.r;clear kx X1 Xm TH;rw[cV];go_wp2_with (refine gT Tryz.underlying45 bD rfl (λ_=>rfl) ρI ρf ρf rfl (.tmp 31) (.tmp 32) rfl w b2 _ _ ([]++[]) ys ρr ρr (ae.below G2 ρE) (ae.below H22 ρE) ρp κi τB ?_;intro y2 u2 G3 kx _);have b2':Below w w u2:=b1'.trans (kx.below ρa (λk hk e=>ae.notown G2 hk e));clear kx;rw[cV];go_wp2;go_ret;exact⟨_,rfl,by simpa using ae.below G3 ρE,ρE⟩
theorem jt:∀(l:List ϗ)(cs:Array ϗ)(o:Nat),(cJ cs o l).size=cs.size
 | [],_,_=>rfl
 | v::r,cs,o=>by unfold cJ;rw[jt r];simp
theorem oW (base:Nat)(v:ϗ)(xs:List Int)(p:Int->Bool)(g:Nat)(lb:Array ϗ)(w:ϖ)(H:HI w base v xs)(hx:xs.length<=1000000)(eg:∀args w,(callFunc g args).run Ψ w=.ok (.enter g args) w)
  (hp:∀x ∈ xs,∀v,Below w w v->Calls Ψ g (#[ι ε x]++lb) v λe v'=>e=ϰ (β (p x))/\Below v v v'):
  CB 113 #[v,.func (.func g) #[] lb] w (ι ε (ii p xs 0)):=by
 obtain⟨oa,oc,rfl⟩:=H.slice;obtain⟨n,hn⟩:=Nq xs.length;rw[hn] at H ⊢;unfold CB;go_in;go_wp2_with fail;go_loopw [8] (λk wr=>∃(a b:List Int),k=ι ε (a.length:Nat)/\xs=a++b/\ii p xs 0=ii p b a.length/\HI wr base (ζ oa n oc) xs/\KO (λ_=>False) w wr) (λk _=>n - (intOf k).toNat);case atStart=>exact⟨[],xs,rfl,rfl,rfl,H,KO.refl _ _⟩
 case round=>
  obtain⟨a,b,rfl,IF,hi,H0,IB⟩:=hrel;have IK:a.length+b.length=n:=ρy;obtain⟨q,hq⟩:=Nq a.length;rw[hq] at IK hi ⊢;cases b with
  | nil=>exact ξD
  | cons x r=>exact ξS
theorem ui (base:Nat)(v:ϗ)(xs:List Int)(g:Nat)(lb:Array ϗ)(w:ϖ)(H:HI w base v xs)(hx:xs.length<=1000000)(eg:∀args w,(callFunc g args).run Ψ w=.ok (.enter g args) w)
  (hp:∀x ∈ xs,∀v,Below w w v->Calls Ψ g (#[ι ε x]++lb) v λe v'=>e=ϰ fJ/\Below v v v'):Calls Ψ 119 #[v,.func (.func g) #[] lb] w λe w'=>∃v',e=ϰ v'/\HI w' base v' []/\KO (λx=>some x=v.ownBlock) w w':=by
 obtain⟨oa,oc,rfl⟩:=H.slice;obtain⟨n,hn⟩:=Nq xs.length;rw[hn] at H ⊢;have hix:xs≠[]->ii (λ_=>true) xs 0=0:=λh=>by
  cases xs with
  | nil=>exact ax rfl h
  | cons a r=>rfl
 by_cases h0:xs=[]
 ·have Kv:n=0:=by rw[<- hn,h0];rfl
  subst Kv;subst h0;go_in;go_wp2_with fail;refine(oW base _ [] (λ_=>true) g lb w H ρp eg (by intro x hx;cases hx)).mono ?_;rintro e v ⟨rfl,kx⟩;have z:=kx.size;simp only[ii];go_wp2;go_ret;exact⟨_,rfl,ae.below (ae.below H kx) ρE,(KO.of_below kx).step0 ρE⟩
 have h1:=hix h0;have n1:1<=n:=by rw[<- hn];cases xs with|nil=>exact ax rfl h0|cons a r=>simp
 replace h1:=ag h1;clear hix;obtain⟨Tz,MX,g0,e0,JA,e1,_⟩:=ae.at H (λ_=>rfl);have e1:=e1 h0;obtain⟨rfl,-,rfl⟩:=ZV e0;subst e1;replace JA:=ag JA;clear e0;go_in;go_wp2_with fail;refine(oW base _ xs (λ_=>true) g lb w H hx eg hp).mono ?_;rintro e v1 ⟨rfl,kx⟩;rw[h1.out];have H1:=ae.below H kx;have F':KO (λ_=>False) w v1:=KO.of_below kx;have z1:=kx.size;clear kx;replace h0:=ag h0;go_wp2_with fail;go_loopw [5,6] (λt k wr=>∃q:Nat,t=Kz/\k=ι ε q/\1<=q/\q<=n/\HI wr base (ζ g0 n oc) xs/\KO (λ_=>False) w wr) (λ_ k _=>xs.length - (intOf k).toNat);case atStart=>exact⟨1,rfl,rfl,ZR _,n1,ae.below H1 ρE,F'.step0 ρE⟩
 case round=>
  obtain⟨q,rfl,rfl,q1,q2,H0,IB⟩:=hrel;clear H1 F';have zw:=IB.size;by_cases hq:q<n
  ·have hd:=ZT hq;have Lz:xs[q]?=some xs[q]:=List.getElem?_eq_getElem ρa;obtain⟨x,hxx⟩:∃x,xs[q]?=some x:=⟨_,Lz⟩;have Nc:x ∈ xs:=List.mem_of_getElem? hxx;obtain⟨cx,gx,bx⟩:=HI.cell H0 q x hxx;clear Lz;replace hxx:=ag hxx;go_wp2_with (go_at_fn g;refine(hp x Nc _ (IB.step0 ρE).toBelow).mono ?_;rintro e v4 ⟨rfl,kx⟩;have IC:KO (λ_=>False) w v4:=IB.step0 (Below.trans ρE (kx.mono ρp));have H4:=ae.below (ae.below H0 ρE) kx);go_roundw;case rel=>exact⟨q+1,rfl,by go_num,by omega,by omega,ae.below H4 ρE,IC.step0 ρE⟩
   case measure=>simp[intOf];omega
  ·have hd:=ZF hq;obtain⟨hl,⟨e1,_⟩|⟨g1,IM,Lp,e1,hg1,hh,Tr,hc2,hc3,ht⟩⟩:=id H0
   ·cases e1
   obtain⟨e2,-,e3⟩:=ZV e1;cases e2;subst e3
   have hB:ah wr g0 Lp 3:=hh;have Uk:∀ty,(Builtin.clear_ #[45] ty #[ζ g0 n oc]).run Ψ wr=.ok (χ #[]) (wr.setCells g0 0 (List.replicate n Kz)):=λty=>Lib.run_clear_slice wr _ 3 ty _ Tryz.underlying45 ρm rfl rfl g0 0 n _ ρa (λj hj=>by rw[hB.cell];simp;omega) (λj hj=>hB.frozen _);have hcap2:=JA.out;go_wp2;go_ret;have kw:=KO.setCells (F:=λx=>some x=(Value.slice g0 xs.length oc).ownBlock) (a:=wr) (B:=g0) (λ_=>rfl) (List.replicate xs.length Kz) 0 wr (KO.refl _ _);have N0:=ah.setCells (List.replicate xs.length Kz) 0 wr Lp hB;refine⟨_,rfl,⟨by simp,.inr ⟨g0,oc,cJ Lp 0 (List.replicate xs.length Kz),rfl,hg1,?_,Nat.zero_le _,hc2,by rw[jt];exact hc3,by simp⟩⟩,?_⟩
   ·exact N0
   ·exact(IB.mono (λ_ _ f=>f.elim)).trans kw (λ_ _ h=>h)
end Go.Proofs.YtfdlemkplejdnaaGreat
