/- WholeDelay, part 20. Conditions: none. -/
import Derived.Test.YtfdlemkplejdnaaGreatA13
import Derived.Test.YtfdlemkplejdnaaGreatA17
import Derived.Lib.SliceRun
namespace Go.Proofs.YtfdlemkplejdnaaGreat
open Go.RowKit Go.Sort
open Value renaming int->ι,pointer->ψ,slice->ζ,tuple->χ,agg->φ,map->μ,bool->β
open IntKind renaming u64->υ,i64->ε,u16->ω
open Ending renaming returned->ϰ
open Go.Proofs.Tryz renaming prog->Ψ,underlying3->Θ,underlying147->Δ,underlying152->Γ,underlying202->Φ,underlying39->Ξ,underlying207->Ω
open Go renaming World->ϖ,Value->ϗ
set_option linter.unusedVariables false
set_option linter.unusedSimpArgs false
set_option maxHeartbeats 8000000
set_option maxRecDepth 100000
abbrev fu (c:CD):List ϗ:=[ι υ c.r0,ι υ c.r1,ι υ c.r2]
theorem lJ:(Ψ.info? 41).map (λi=>(i.zero,i.size,i.bytes))=some (some (φ (aJ 0 0 0)),3,24):=by kernel_rfl
theorem xH (c:CD)(v:ϖ):(Instr.field 43 (φ (fd c)) 3).run Ψ v=.ok (φ (aJ c.r0 c.r1 c.r2)) v:=by first|kernel_rfl|rfl|(simp[Instr.field,go_sem,Result.andThen];done)
theorem AY {L:List CD} {c:CD} (h:c ∈ L):∃d,fc L c.id=some d:=by
 induction L with
 | nil=>cases h
 | cons a r ih=>
  unfold fc;split
  ·exact⟨_,rfl⟩
  ·rename_i JX;rcases ZC.1 h with rfl|h
   ·exact az rfl JX
   ·exact ih h
theorem ng {p:CD->Bool} {L:List CD} {x:Int}:x ∈ aM p L↔∃c ∈ L,p c=true/\c.id=x:=by
 unfold aM;rw[List.Perm.mem_iff (List.mergeSort_perm _ _),List.mem_map];constructor
 ·rintro⟨c,hc,rfl⟩;exact⟨c,(ZE.1 hc).1,(ZE.1 hc).2,rfl⟩
 ·rintro⟨c,h1,h2,rfl⟩;exact⟨c,ZE.2 ⟨h1,h2⟩,rfl⟩
theorem iu {p:CD->Bool} {L:List CD} {x:Int} (h:x ∈ aM p L):∃c,fc L x=some c:=by obtain⟨c,hc,_,rfl⟩:=ng.1 h;exact AY hc
theorem Dw (T M:Nat)(L:List CD)(w:ϖ)(H:aF w T M L)(hL:L.length<=1000):Calls Ψ 109 #[T] w λe w'=>∃v,e=ϰ v/\af 41 3 fu w' w v ((aM (λc:CD=>de (kd c.r0 c.r1 c.r2)) L).map (dL L))/\Below w w w':=by
 go_in;have zT:=H.1.size;have zM:=H.2.1.size;have Kf:=H.2.2;go_wp2_with fail;refine(oK T M L (λc=>de (kd c.r0 c.r1 c.r2)) 118 #[] w H hL (enters_of Tryz.func118 ρh rfl) (λc hc v _=>rb v c.id c.par c.lf c.r0 c.r1 c.r2 c.l0 c.l1 c.l2 c.u0 c.u1 c.u2 c.pk c.by_ (Kf c hc).2.2.1 _ rfl)).mono ?_;rintro e v1 ⟨u,rfl,G1,kx⟩;obtain⟨ids,Ll⟩:=Nq (aM (λc:CD=>de (kd c.r0 c.r1 c.r2)) L);rw[Ll] at G1;have JS:ids.length<=1000:=by rw[<- Ll,aM,List.length_mergeSort,px];have:=ZH (λc:CD=>de (kd c.r0 c.r1 c.r2)) L;omega
 have QX:∀y ∈ ids,∃c,fc L y=some c:=by rw[<- Ll];exact λy hy=>iu hy
 have T1:=H.below kx;replace Ll:=ag Ll;obtain⟨oa,oc,rfl⟩:=G1.slice;obtain⟨n,hn⟩:=Nq ids.length;rw[hn] at G1 JS ⊢;have zg:∀x,some x=(Value.slice oa n oc).ownBlock->x<v1.heap.size:=λx hx=>(G1.own_ge x hx.symm).2;have z1:=kx.size;go_wp2_with fail;go_loopw [3,9] (λo k wr=>∃(a b:List Int),k=ι ε (a.length:Nat)/\ids=a++b/\af 41 3 fu wr v1 o (a.map (dL L))/\HI wr w (ζ oa n oc) ids/\aF wr T M L/\KO (λ_=>False) v1 wr) (λ_ k _=>n - (intOf k).toNat);case atStart=>exact⟨[],ids,rfl,rfl,af.nil _ _,G1,T1,KO.refl _ _⟩
 case round=>
  obtain⟨a,b,rfl,JK,H0,G0,T0,JG⟩:=hrel;have zw:=JG.size;have JO:a.length+b.length=n:=ρy;obtain⟨cs,Lw⟩:=Nq (a.map (dL L));have Ue:cs.length=a.length:=by rw[<- Lw,px]
  rw[Lw] at H0;obtain⟨ob,oe,rfl⟩:=H0.slice;obtain⟨q,hq⟩:=Nq a.length;rw[hq] at JO ⊢;cases b with
  | nil=>
   refine η4 ?_;intro JM hd;have ha:a=ids:=ρL;clear JK;change Hid _ at JO hn hq Ue Lw ha;go_wp2;go_ret;refine⟨_,rfl,?_,kx.trans ((JG.step0 ρE).toBelow.mono z1)⟩;have S:=(H0.below ρE).base_le z1;rw[<- Lw.out,ha.out] at S;rw[Ll.out]
   first|exact S|(rw[<- Lw.out,ha.out];exact S)
  | cons x r=>
   refine η5 ?_;intro JM hd;have MS:ids[q]?=some x:=ρC;have JX:ids≠[]:=ρP;obtain⟨c,hc⟩:=QX x ρP;obtain⟨Us,NS,g0,e0,Kv,e1,_⟩:=af.at G0 (λ_=>rfl);have e1:=e1 JX;obtain⟨rfl,-,rfl⟩:=ZV e0;subst e1;obtain⟨cx,gx,bx⟩:=HI.cell G0 q x MS;have My:q<n:=ρa;have Ud:cs.length<=1000:=ρa;change Hid _ at JK hq hn Kv JO Lw Ue;have hc0:=ag hc;obtain⟨T2,M2,_⟩:=id T0;have cT:=T2.cell;have fT:=T2.frozen;have l1:=(eW M2 hc).2;have Xd:=λv=>xH c v;go_wp2_with (refine aw Tryz.underlying115 lJ rfl (λ_=>rfl) τF ρf ρf rfl (.tmp 13) (.tmp 21) rfl v1 (ζ ob cs.length oe) cs c wr (aJ c.r0 c.r1 c.r2) rfl ρs ρs (H0.below ρE) ρB ρa ρJ ?_;intro o4 v4 H4 kx;replace kx:=kx.of_alloc;have T4:=T0.ko kx (af.notown H0 ρa) (af.notown H0 ρa);have G4:=G0.ko kx (λx _ hx h=>af.notown H0 (zg x hx) h);have JJ:KO (λ_=>False) v1 v4:=JG.trans kx (by intro y hy h;exact az h (af.notown H0 hy));have VF:=JJ.size);go_roundw;case rel=>exact⟨a++[x],r,by rw[ZL,hq.out];go_num,by rw[JK.out];simp,by rw[List.map_append,Lw.out,fV,List.map_nil,show dL L x=c by simp[dL,hc0.out]];exact af.below H4 ρE,af.below G4 ρE,T4.below ρE,JJ.step0 ρE⟩
   case measure=>exact ξc
theorem ki {P:Program} {w:ϖ} (t x ty e:TypeId)(i:TypeInfo)(z:ϗ)(k:IntKind)(ht:P.underlying t=some (.slice e))(hx:P.underlying x=some (.int k))(hi:P.info? e=some i)(hz:i.zero=some z)(n:Nat)(h0:0<n)(h1:n<=1000)(hb:i.bytes<=1000)(hs:0<i.size):
  ∃cs,cs=Builtin.zeroCells z.cells n++Builtin.zeroCells z.cells (grownCap w n 0 e - n)/\(Builtin.append_ #[t,x] ty #[Kn,ι ε n]).run P w=.ok (ζ w n (grownCap w n 0 e)) (w.drew.alloc (.cells cs e)):=by
 have hn:n≠0:=ρa;have hw:IntKind.i64.wrap (n:Int)=n:=IntWalk.i64_in _ ⟨by omega,by omega⟩;have h63':¬(Mb<(n:Int)):=ρa;have hm:n*i.bytes<=1000*1000:=Nat.mul_le_mul h1 hb;have h48':¬(281474976710656<Builtin.nextslicecap n 0*i.bytes):=by rw[nextslicecap_zero h0];omega
 have h49:¬(281474976710656<(n:Int)*(i.bytes:Int)):=by have:((n*i.bytes:Nat):Int)<=1000000:=ρa;rw[Int.natCast_mul] at this;omega
 have hns:¬(n*i.size=0):=Nat.mul_ne_zero hn ρa;refine⟨_,rfl,?_⟩;have hg:¬((n:Int)<0):=ρa;have hg2:¬((n:Int)<=0):=ρa;have Yu:max (n:Int) 0=n:=ρa;have ha:(asIntOf (Value.int .i64 (n:Int))).run P w=.ok (.i64,(n:Int)) w:=by first|rfl|simp[asIntOf]
 simp[ha,hg,hg2,Yu,Builtin.append_,run_underlying ht,run_underlying hx,sizeOf,typeInfo,zeroValue,hi,hz,Builtin.lenOf,hn,hw,h63',h48',h49,hns,Question.forced,run_firstCells_none,newRow,grownCap,asInt]
open Go.Lib in
theorem ie {α:Type} {e:TypeId} {n:Nat} {enc:α->List ϗ} {st:TypeId} {by_:Nat} {z:ϗ} (hu:Ψ.underlying st=some (.slice e))(PC:(Ψ.info? e).map (λi=>(i.zero,i.size,i.bytes))=some (some z,n,by_))(hz:z.cells.size=n)(hn:∀x,(enc x).length=n)(h1:∀x,∀u ∈ enc x,u.oneCell'=true)(Mu:0<n)(Yl:by_<=1000)
  {w:ϖ} {JF:Array Oper} {rest:List Oper} {o:Oper} {a:Act} {Q:Exit->Act->ϖ->Prop} (Mt:o.guard=none) (sl x:Operand)
  (ho:o.op=.call {callee:=.builtin .append,args:=#[sl,x],argTypes:=#[st,st]})
  (base Yd:Nat) (v1 v:ϗ) (L1 L:List α) (hs:a.eval sl=v1) (hx:a.eval x=v) (h1':af e n enc w base v1 L1) (h:af e n enc w Yd v L) (hsz1:L1.length<=1000000) (Lz:L.length<=1000000) (Na:base<=w)
  (hk:∀v' w',af e n enc w' base v' (L1++L)->KO (λx=>some x=v1.ownBlock) w w'->(v'.ownBlock=v1.ownBlock\/v'.ownBlock=some w)->wpList Ψ JF Q rest (a.put o.dst v') w'):wpList Ψ JF Q (o::rest) a w:=by
 refine wpList_plain Mt λK hK=>?_;obtain⟨i,hi,q⟩:=Option.map_eq_some_iff.1 PC;simp only[Prod.mk.injEq] at q;obtain⟨a1,c1,e1⟩:=h1'.slice;rcases h with ⟨hl,⟨rfl,h0⟩|⟨g,JN,cur,rfl,hg,hh,hc,hm,Ki,ht⟩⟩
 ·have hL:L=[]:=List.length_eq_zero_iff.1 h0;subst hL;have Pe:L1.length<=c1:=by
   rcases h1'.2 with ⟨e2,e3⟩|⟨g,JN,cur,e2,_,_,e3,_⟩
   ·have:=ZV (e1.symm.trans e2);omega
   ·have:=ZV (e1.symm.trans e2);omega
  have hr:(Builtin.append_ #[st,st] o.type #[v1,Kn]).run Ψ w=.ok v1 w:=by
   subst e1;cases a1 with
   | none=>simp[Builtin.append_,run_underlying hu,Result.andThen,go_sem,sizeOf,typeInfo,hi,Builtin.lenOf,Builtin.firstCells,Pe]
   | some a1=>simp[Builtin.append_,run_underlying hu,Result.andThen,go_sem,sizeOf,typeInfo,hi,Builtin.lenOf,Builtin.firstCells,Pe,storeCells]
  refine η9 ?_;exact hK _ _ (hk _ _ (by rw[ZA];exact h1') (KO.refl _ _) (.inl rfl))
 ·have hHold:af e n enc w Yd (ζ g L.length JN) L:=⟨hl,.inr ⟨g,JN,cur,rfl,hg,hh,hc,hm,Ki,ht⟩⟩;have hat':∀t u,(L.flatMap enc)[t]?=some u->w.cell? ⟨g,0+t,none⟩=some u:=by
   intro t u htu;have NG:w.cell? ⟨g,0+t,none⟩=cur[t]?:=by simp[World.cell?,hh]
   rw[NG,<- Array.getElem?_toList];have Un:=(List.getElem?_eq_some_iff.1 htu).1;rw[gd hn] at Un;rw[<- ht,List.getElem?_take_of_lt Un] at htu;exact htu
  obtain⟨v',w',hr,h2,h3,_,h5⟩:=run_append_own_at (P:=Ψ) w base st o.type e i z n by_ hu hi q.1 q.2.1 q.2.2 hz Mu v1 L1.length (L1.flatMap enc) h1' ⟨g,0,none⟩ L.length JN (L.flatMap enc) (gd hn L) (λj u hj=>by rw[Addr.add_mid];exact hat' j u hj) σJ σZ (by have:(L1.length+L.length)*by_<=(L1.length+L.length)*1000:=Nat.mul_le_mul_left _ Yl;omega) Na
  refine η9 ?_;refine hK _ _ (hk v' w' ?_ ⟨h3.os,h3.tape,h3.output,h3.size,λk hk JX=>h3.block k hk JX⟩ h5);unfold af;rw[ZL,List.flatMap_append];exact h2
theorem uk {st1 st2:TypeId} {w w':ϖ} {JF:Array Oper} {rest:List Oper} {o:Oper} {a:Act} {Q:Exit->Act->ϖ->Prop} (Mt:o.guard=none)(sl x:Operand)(ho:o.op=.call {callee:=.builtin .append,args:=#[sl,x],argTypes:=#[st1,st2]})
  (v1 v2 v:ϗ) (hs:a.eval sl=v1) (hx:a.eval x=v2) (hr:(Builtin.append_ #[st1,st2] o.type #[v1,v2]).run Ψ w=.ok v w') (h:wpList Ψ JF Q rest (a.put o.dst v) w'):wpList Ψ JF Q (o::rest) a w:=by
 refine wpList_plain Mt λK hK=>?_;refine η9 ?_;exact hK _ _ h
theorem Fy:∃i,Ψ.info? 3=some i/\i.zero=some (ι ε 0)/\i.size=1/\i.bytes=8:=by obtain⟨i,hi,q⟩:=Option.map_eq_some_iff.1 cD;simp only[Prod.mk.injEq] at q;exact⟨i,hi,q⟩
theorem Eh (w:ϖ):CB 146 #[Kn,Kz] w Kn:=ξN
theorem Gg (n:Nat)(w:ϖ)(h0:0<n)(h1:n<=1000):Calls Ψ 146 #[Kn,ι ε n] w λe w'=>∃v,e=ϰ v/\HI w' w v []/\Below w w w':=by
 obtain⟨i,hi,hz,hs,hb⟩:=Fy;obtain⟨cs,Lw,MZ⟩:=ki (P:=Ψ) (w:=w) 45 3 45 3 i _ .i64 Tryz.underlying45 Θ hi hz n h0 h1 ρa ρa;have Ud:=grownCap_ge w n 0 3;have hc2:=grownCap_le_maxLen w n 0 3 σZ;obtain⟨c,hc⟩:=Nq (grownCap w n 0 3);rw[hc] at MZ Lw Ud hc2;have Lz:cs.size=c:=by rw[Lw];simp[Builtin.zeroCells,Value.cells];omega
 have d1:=df ((n:Int)<0);have d2:=dt ((0:Int)<(n:Int));have d3:IntKind.i64.wrap ((n:Int) - 0)=n:=IntWalk.i64_in _ ⟨by omega,by omega⟩;clear hc Lw hi hz hs hb;go_in;go_wp2_with (refine uk rfl (.tmp 20) (.tmp 21) rfl _ _ _ ρs ρs MZ ?_);go_ret;exact⟨_,rfl,⟨by simp,.inr ⟨w,c,cs,rfl,ZR _,(show ah _ _ cs 3 from ρB),Nat.zero_le _,hc2,by omega,by simp⟩⟩,ρE⟩
theorem Ei (n:Nat)(w:ϖ)(h1:n<=1000):Calls Ψ 146 #[Kn,ι ε n] w λe w'=>∃v,e=ϰ v/\HI w' w v []/\Below w w w':=by
 by_cases h0:n=0
 ·subst h0;exact(Eh w).mono λe w' ⟨h1,h2⟩=>⟨_,h1,af.nil _ _,h2⟩
 ·exact Gg n w ρa h1
theorem BP (X:Nat)(v1 v2:ϗ)(b1 b2:Nat)(ys:List Int)(w:ϖ)(H1:HI w b1 v1 [])(H2:HI w b2 v2 ys)(hy:ys.length<=1000)(hX:ah w X #[v1,v2] 45):Calls Ψ 110 #[ζ X 2 2] w λe w'=>∃v,e=ϰ v/\HI w' w v ys/\Below w w w':=by
 obtain⟨oa,oc,rfl⟩:=H1.slice;obtain⟨ob,od,rfl⟩:=H2.slice;have hX2:=hX;obtain⟨n,hn⟩:=Nq ys.length;simp only[List.length_nil] at hX H1;rw[hn] at H2 hX hy;clear hX2;have Rr:=hX.r;have w1:IntKind.i64.wrap (n:Int)=n:=IntWalk.i64_in _ ⟨by omega,by omega⟩;have d1:=df ((n:Int)<0);have zX0:=hX.size;have hv2:∀x,some x=(Value.slice ob n od).ownBlock->x<w.heap.size:=λx hx=>(H2.own_ge x hx.symm).2;replace hn:=ag hn;go_in;go_wp2_with fail;refine wp_loop_rounds 3 ?_;rw[cU];go_wp2_with fail;rw[cU];go_wp2_with fail;rw[cU];go_wp2_with fail;refine(Ei n _ hy).mono ?_;rintro e u ⟨nv,rfl,G,kx⟩;have zu:=kx.size;have G1:HI u w nv []:=af.base_le G ρp;have b0:Below w w u:=Below.trans ρE (kx.mono ρp);have X1:=ah.below hX b0 hX.size;have Uz:=af.below H1 b0;have XU:=af.below H2 b0;replace Rr:=X1.r;clear kx G hX H1 H2;go_wp2_with fail;refine wp_loop_rounds 3 ?_;rw[cU];go_wp2_with (refine ie Tryz.underlying45 cD rfl (λ_=>rfl) ρI ρf ρf rfl (.tmp 31) (.tmp 32) rfl w b1 _ _ [] [] ρs ρs (af.below G1 ρE) (af.below Uz ρE) ρp ρp (by have:=b0.size;simp;omega) ?_;intro y1 u1 G2 kx _);have b1':Below w w u1:=b0.trans (kx.below zu (λk hk e=>af.notown G1 hk e));have X2:=X1.ko kx (af.notown G1 zX0);have H22:=af.ko XU kx (λx _ hx e=>af.notown G1 (hv2 x hx) e);have zu1:=kx.size;replace Rr:=X2.r;clear kx X1 XU Uz;rw[cU];go_wp2_with (refine ie Tryz.underlying45 cD rfl (λ_=>rfl) ρI ρf ρf rfl (.tmp 31) (.tmp 32) rfl w b2 _ _ ([]++[]) ys ρs ρs (af.below G2 ρE) (af.below H22 ρE) ρp κg τA ?_;intro y2 u2 G3 kx _);have b2':Below w w u2:=b1'.trans (kx.below ρa (λk hk e=>af.notown G2 hk e));clear kx;rw[cU];go_wp2;go_ret;exact⟨_,rfl,by simpa using af.below G3 ρE,ρE⟩
theorem jH:∀(l:List ϗ)(cs:Array ϗ)(o:Nat),(cH cs o l).size=cs.size
 | [],_,_=>rfl
 | v::r,cs,o=>by unfold cH;rw[jH r];simp
theorem o8 (base:Nat)(v:ϗ)(xs:List Int)(p:Int->Bool)(g:Nat)(lb:Array ϗ)(w:ϖ)(H:HI w base v xs)(hx:xs.length<=1000000)(eg:∀args w,(callFunc g args).run Ψ w=.ok (.enter g args) w)
  (hp:∀x ∈ xs,∀v,Below w w v->Calls Ψ g (#[ι ε x]++lb) v λe v'=>e=ϰ (β (p x))/\Below v v v'):
  CB 113 #[v,.func (.func g) #[] lb] w (ι ε (iv p xs 0)):=by
 obtain⟨oa,oc,rfl⟩:=H.slice;obtain⟨n,hn⟩:=Nq xs.length;rw[hn] at H ⊢;unfold CB;go_in;go_wp2_with fail;go_loopw [8] (λk wr=>∃(a b:List Int),k=ι ε (a.length:Nat)/\xs=a++b/\iv p xs 0=iv p b a.length/\HI wr base (ζ oa n oc) xs/\KO (λ_=>False) w wr) (λk _=>n - (intOf k).toNat);case atStart=>exact⟨[],xs,rfl,rfl,rfl,H,KO.refl _ _⟩
 case round=>
  obtain⟨a,b,rfl,JK,hi,H0,JG⟩:=hrel;have JO:a.length+b.length=n:=ρy;obtain⟨q,hq⟩:=Nq a.length;rw[hq] at JO hi ⊢;cases b with
  | nil=>exact ξC
  | cons x r=>exact ξQ
theorem uY (base:Nat)(v:ϗ)(xs:List Int)(g:Nat)(lb:Array ϗ)(w:ϖ)(H:HI w base v xs)(hx:xs.length<=1000000)(eg:∀args w,(callFunc g args).run Ψ w=.ok (.enter g args) w)
  (hp:∀x ∈ xs,∀v,Below w w v->Calls Ψ g (#[ι ε x]++lb) v λe v'=>e=ϰ fK/\Below v v v'):Calls Ψ 119 #[v,.func (.func g) #[] lb] w λe w'=>∃v',e=ϰ v'/\HI w' base v' []/\KO (λx=>some x=v.ownBlock) w w':=by
 obtain⟨oa,oc,rfl⟩:=H.slice;obtain⟨n,hn⟩:=Nq xs.length;rw[hn] at H ⊢;have hix:xs≠[]->iv (λ_=>true) xs 0=0:=λh=>by
  cases xs with
  | nil=>exact az rfl h
  | cons a r=>rfl
 by_cases h0:xs=[]
 ·have Mu:n=0:=by rw[<- hn,h0];rfl
  subst Mu;subst h0;go_in;go_wp2_with fail;refine(o8 base _ [] (λ_=>true) g lb w H ρp eg (by intro x hx;cases hx)).mono ?_;rintro e v ⟨rfl,kx⟩;have z:=kx.size;simp only[iv];go_wp2;go_ret;exact⟨_,rfl,af.below (af.below H kx) ρE,(KO.of_below kx).step0 ρE⟩
 have h1:=hix h0;have n1:1<=n:=by rw[<- hn];cases xs with|nil=>exact az rfl h0|cons a r=>simp
 replace h1:=ag h1;clear hix;obtain⟨Us,NS,g0,e0,Kv,e1,_⟩:=af.at H (λ_=>rfl);have e1:=e1 h0;obtain⟨rfl,-,rfl⟩:=ZV e0;subst e1;replace Kv:=ag Kv;clear e0;go_in;go_wp2_with fail;refine(o8 base _ xs (λ_=>true) g lb w H hx eg hp).mono ?_;rintro e v1 ⟨rfl,kx⟩;rw[h1.out];have H1:=af.below H kx;have I':KO (λ_=>False) w v1:=KO.of_below kx;have z1:=kx.size;clear kx;replace h0:=ag h0;go_wp2_with fail;go_loopw [5,6] (λt k wr=>∃q:Nat,t=Kz/\k=ι ε q/\1<=q/\q<=n/\HI wr base (ζ g0 n oc) xs/\KO (λ_=>False) w wr) (λ_ k _=>xs.length - (intOf k).toNat);case atStart=>exact⟨1,rfl,rfl,ZR _,n1,af.below H1 ρE,I'.step0 ρE⟩
 case round=>
  obtain⟨q,rfl,rfl,q1,q2,H0,JG⟩:=hrel;clear H1 I';have zw:=JG.size;by_cases hq:q<n
  ·have hd:=ZT hq;have MS:xs[q]?=some xs[q]:=List.getElem?_eq_getElem ρa;obtain⟨x,hxx⟩:∃x,xs[q]?=some x:=⟨_,MS⟩;have NW:x ∈ xs:=List.mem_of_getElem? hxx;obtain⟨cx,gx,bx⟩:=HI.cell H0 q x hxx;clear MS;replace hxx:=ag hxx;go_wp2_with (go_at_fn g;refine(hp x NW _ (JG.step0 ρE).toBelow).mono ?_;rintro e v4 ⟨rfl,kx⟩;have JJ:KO (λ_=>False) w v4:=JG.step0 (Below.trans ρE (kx.mono ρp));have H4:=af.below (af.below H0 ρE) kx);go_roundw;case rel=>exact⟨q+1,rfl,by go_num,by omega,by omega,af.below H4 ρE,JJ.step0 ρE⟩
   case measure=>simp[intOf];omega
  ·have hd:=ZF hq;obtain⟨hl,⟨e1,_⟩|⟨g1,JN,cur,e1,hg1,hh,Ud,hc2,hc3,ht⟩⟩:=id H0
   ·cases e1
   obtain⟨e2,-,e3⟩:=ZV e1;cases e2;subst e3
   have hB:ah wr g0 cur 3:=hh;have Ue:∀ty,(Builtin.clear_ #[45] ty #[ζ g0 n oc]).run Ψ wr=.ok (χ #[]) (wr.setCells g0 0 (List.replicate n Kz)):=λty=>Lib.run_clear_slice wr _ 3 ty _ Tryz.underlying45 ρm rfl rfl g0 0 n _ ρa (λj hj=>by rw[hB.cell];simp;omega) (λj hj=>hB.frozen _);have hcap2:=Kv.out;go_wp2;go_ret;have kw:=KO.setCells (F:=λx=>some x=(Value.slice g0 xs.length oc).ownBlock) (a:=wr) (B:=g0) (λ_=>rfl) (List.replicate xs.length Kz) 0 wr (KO.refl _ _);have OQ:=ah.setCells (List.replicate xs.length Kz) 0 wr cur hB;refine⟨_,rfl,⟨by simp,.inr ⟨g0,oc,cH cur 0 (List.replicate xs.length Kz),rfl,hg1,?_,Nat.zero_le _,hc2,by rw[jH];exact hc3,by simp⟩⟩,?_⟩
   ·exact OQ
   ·exact(JG.mono (λ_ _ f=>f.elim)).trans kw (λ_ _ h=>h)
end Go.Proofs.YtfdlemkplejdnaaGreat
