/- WholeBehind, part 11. Conditions: none. -/
import Derived.Test.YtfdlemkplejdnaaGreatA8
import Derived.Deep.LoopGhost
namespace Go.Proofs.YtfdlemkplejdnaaGreat
open Go.RowKit Go.Sort
open Value renaming int->ι,pointer->ψ,slice->ζ,tuple->χ,agg->φ,map->μ,bool->β
open IntKind renaming u64->υ,i64->ε,u16->ω
open Ending renaming returned->ϰ
open Go.Proofs.Tryz renaming prog->Ψ,underlying3->Θ,underlying147->Δ,underlying152->Γ,underlying202->Φ,underlying39->Ξ,underlying207->Ω
open Go renaming World->ϖ,Value->ϗ
set_option linter.unusedVariables false
set_option linter.unusedSimpArgs false
set_option maxHeartbeats 8000000
set_option maxRecDepth 100000
theorem DO (b:Nat)(l r:PT)(i m0:ay)(h0 n0:Int)(w:ϖ)(B:ah w b (cz i l.ptr r.ptr m0 h0 n0) 372)(L:aR w l)(R:aR w r)(bl:b ∉ l.bs)(br:b ∉ r.bs)(sl:l.many<=1099511627776)(sr:r.many<=1099511627776)(ho:¬r.high+1<l.high)(hi:¬l.high+1<r.high):Calls Ψ 271 #[b] w λe w'=>e=ϰ b/\aR w' (PT.node b l i r)/\KO (λx=>x=b) w w':=by
 obtain⟨H1,e1⟩:=Nq l.high;obtain⟨H2,e2⟩:=Nq r.high;rw[e1,e2] at ho hi;have q1:=AT.high_many l.bare;have q2:=AT.high_many r.bare;have z3:0<=H2/\H2<=1099511627776/\H1<=1099511627776/\0<=H1:=by rw[<- e1,<- e2];simp only[PT.high,PT.many] at*;omega
 have z1:H1<=H2+1:=ρa;have z2:H2<=H1+1:=ρa;clear q1 q2 ho hi;have s_l:=ag sl;have SP:=ag sr;clear sl sr;have cL:∀v,aR v l->Calls Ψ 272 #[l.ptr] v λe w'=>e=ϰ (ι ε H1)/\v=w':=λv h=>fF l H1 v h e1;have cR:∀v,aR v r->Calls Ψ 272 #[r.ptr] v λe w'=>e=ϰ (ι ε H2)/\v=w':=λv h=>fF r H2 v h e2;clear e1 e2;refine η4 ?_;intro x0 x1;have Rr:=B.r;go_in;go_wp2_with fail;refine Zc (θ4 (Ks (λx=>x=b) w) B L R) ?_;rintro v1 ⟨F',B1,L1,R1⟩;refine(fN b l r i m0 h0 n0 _ B1 L1 R1 bl br s_l.out SP.out).mono ?_;rintro e v2 ⟨rfl,Rl,kx⟩;obtain⟨m2,h2,n2,B2,em,eh,en⟩:∃m2 h2 n2,ah v2 b (cz i l.ptr r.ptr m2 (h2) (n2)) 372/\Hid (m2=PT.lst l i r)/\Hid (h2=1+max l.high r.high)/\Hid (n2=1+l.many+r.many):=⟨_,_,_,Rl,rfl,rfl,rfl⟩;clear Rl;have L2:=L1.ko kx τp;have R2:=R1.ko kx σQ;have Iz:KO (λx=>x=b) w v2:=F'.trans kx ρc;replace Rr:=B2.r;clear kx;go_wp2_with fail;refine wp_loop_rounds 3 ?_;rw[cV];go_wp2_with fail;refine bS (θ4 Iz B2 L2 R2) ?_;clear Rr;rintro v3 ⟨ID,B3,L3,R3⟩ Rr;have q:=af B3;refine Wq ?_
 repeat (go_big_quiet_step ((first
   | (go_at_call 272;(with_reducible exact an (cL _ (L3.below (ZW _ _ _)))))
   | (go_at_call 272;(with_reducible exact an (cR _ (R3.below (ZW _ _ _))))))))
 refine bF (θ4 B3 L3 R3 ID) ?_;clear Rr;rintro v4 ⟨B4,L4,R4,IC⟩ Rr;clear q B3 L3 R3;go_wp2_with fail;rw[cV];go_wp2_with fail;refine bS (θ4 IC B4 L4 R4) ?_;clear Rr;rintro v5 ⟨IN,B5,L5,R5⟩ Rr;have q:=af B5;refine Wq ?_
 repeat (go_big_quiet_step ((first
   | (go_at_call 272;(with_reducible exact an (cR _ (R5.below (ZW _ _ _)))))
   | (go_at_call 272;(with_reducible exact an (cL _ (L5.below (ZW _ _ _))))))))
 refine bF (θ4 B5 L5 R5 IN) ?_;clear Rr;rintro v6 ⟨B6,L6,R6,IQ⟩ Rr;clear q B5 L5 R5;go_wp2_with fail;rw[cV];go_wp2;go_ret;exact⟨rfl,⟨by rw[<- em.out,<- eh.out,<- en.out];exact B6,L6,R6⟩,IQ⟩
def PT.bal (b:Nat)(l:PT)(i:ay)(r:PT):PT:=
 if r.high+1<l.high then
  match l with
  | .node c a li d=>
   if a.high<d.high then
    match d with
    | .node k f j g=>.node k (.node c a li f) j (.node b g i r)
    | .nil=>.node b l i r
   else .node c a li (.node b d i r)
  | .nil=>.node b l i r
 else if l.high+1<r.high then
  match r with
  | .node c d li a=>
   if a.high<d.high then
    match d with
    | .node k g j f=>.node k (.node b l i g) j (.node c f li a)
    | .nil=>.node b l i r
   else .node c (.node b l i d) li a
  | .nil=>.node b l i r
 else .node b l i r
theorem PT.bal_bare (b:Nat)(l:PT)(i:ay)(r:PT):(PT.bal b l i r).bare=AT.bal l.bare i r.bare:=by
 unfold PT.bal AT.bal;by_cases h1:r.high+1<l.high
 ·rw[ZP h1,ZP h1];cases l with
  | nil=>rfl
  | node c a li d=>
   show _=(if a.bare.high<d.bare.high then _ else _);by_cases h2:a.high<d.high
   ·simp only[ZP h2];cases d with
    | nil=>rfl
    | node k f j g=>rfl
   ·simp only[ZI h2];rfl
 ·rw[ZI h1,ZI h1];by_cases h3:l.high+1<r.high
  ·rw[ZP h3,ZP h3];cases r with
   | nil=>rfl
   | node c d li a=>
    show _=(if a.bare.high<d.bare.high then _ else _);by_cases h2:a.high<d.high
    ·simp only[ZP h2];cases d with
     | nil=>rfl
     | node k g j f=>rfl
    ·simp only[ZI h2];rfl
  ·rw[ZI h3,ZI h3];rfl
theorem PT.bal_bs (b:Nat)(l:PT)(i:ay)(r:PT)(x:Nat):x ∈ (PT.bal b l i r).bs↔x ∈ (PT.node b l i r).bs:=by
 unfold PT.bal
 repeat' split
 all_goals (simp only[PT.bs,ZC,ZM];try grind)
theorem PT.bal_apart (b:Nat)(l:PT)(i:ay)(r:PT)(h:(PT.node b l i r).Apart):(PT.bal b l i r).Apart:=by
 unfold PT.bal
 repeat' split
 all_goals (try exact h)
 all_goals (simp only[PT.Apart,PT.bs,ZC,ZM,not_or] at h ⊢;grind)
theorem ie (b:Nat)(l r:PT)(i m0:ay)(h0 n0:Int)(w:ϖ)(B:ah w b (cz i l.ptr r.ptr m0 h0 n0) 372)(L:aR w l)(R:aR w r)(ap:(PT.node b l i r).Apart)(sz:1+l.many+r.many<=1099511627776):Calls Ψ 271 #[b] w λe w'=>e=ϰ (PT.bal b l i r).ptr/\aR w' (PT.bal b l i r)/\KO (λx=>x ∈ (PT.node b l i r).bs) w w':=by
 have q1:=AT.high_many l.bare;have q2:=AT.high_many r.bare;have sl:l.many<=1099511627776:=σW;have sr:r.many<=1099511627776:=σW;unfold PT.bal;by_cases h1:r.high+1<l.high
 ·simp only[ZP h1];cases l with
  | nil=>simp only[PT.high,PT.bare,AT.high] at h1 q2;omega
  | node c a li d=>
   by_cases h2:a.high<d.high
   ·simp only[ZP h2];cases d with
    | nil=>have:=(AT.high_many a.bare).1;simp only[PT.high,PT.bare,AT.high] at h2 this;omega
    | node k f j g=>exact Cc b c k a f g r i j li m0 h0 n0 w B L R ap sz h1 h2
   ·simp only[ZI h2];exact Cb b c a d r i li m0 h0 n0 w B L R ap sz h1 h2
 ·simp only[ZI h1];by_cases h3:l.high+1<r.high
  ·simp only[ZP h3];cases r with
   | nil=>simp only[PT.high,PT.bare,AT.high] at h3 q1;omega
   | node c d li a=>
    have Vx:1+(PT.node c d li a).many+l.many<=1099511627776:=σW;by_cases h2:a.high<d.high
    ·simp only[ZP h2];cases d with
     | nil=>have:=(AT.high_many a.bare).1;simp only[PT.high,PT.bare,AT.high] at h2 this;omega
     | node k g j f=>exact Ce b c k a f g l i j li m0 h0 n0 w B R L ap Vx h3 h2
    ·simp only[ZI h2];exact Cd b c a d l i li m0 h0 n0 w B R L ap Vx h3 h2
  ·simp only[ZI h3];exact(DO b l r i m0 h0 n0 w B L R ap.1 ap.2.1 sl sr h1 h3).mono λe w' ⟨h,t,k⟩=>⟨h,t,k.mono λx _ q=>by rw[q];simp[PT.bs]⟩
theorem mN (b:Nat)(i m:ay)(p q:ϗ)(h n:Int)(k:aG)(s:Int)(w:ϖ)(B:ah w b (cz i p q m h n) 372)(hs:(if i.key.lt k then (1:Int) else 0)=s):
  CB 270 #[b,rk k] w (ι ε s):=by
 obtain⟨c,hc,hd⟩:∃c,mD k i.key=c/\((0<c/\s=1)\/(¬0<c/\s=0)):=by
  by_cases h:i.key.lt k
  ·exact⟨1,nU h,.inl ⟨by omega,by rw[<- hs,ZP h]⟩⟩
  ·refine⟨_,rfl,.inr ⟨?_,by rw[<- hs,ZI h]⟩⟩;rcases aG.lt_or k i.key with q|q|q
   ·rw[nW q];omega
   ·rw[kN q];omega
   ·exact ax q h
 have Hc:=ag hc;clear hc hs;have Rr:=B.r;rcases hd with ⟨h1,rfl⟩|⟨h1,rfl⟩
 all_goals
  unfold CB;go_in;go_wp2_with fail;refine jf (θ2 (Ks (λ_=>False) w) B) (λv=>ah v w #[k.pos,ι ε k.id] 333) ρB ?_;clear Rr;rintro v1 A1 ⟨F',B1⟩ Rr;have Ss:=A1.r;have qB:=af B1;have qA:=af A1;refine Wq ?_
  repeat (go_big_quiet_step ((first
    | (go_at_call 277;(with_reducible exact bT (iM k i.key c _ Hc.out))))))
  refine bF (θ3 B1 A1 F') ?_;clear Rr Ss;rintro v2 ⟨B2,A2,Iz⟩ Rr;clear qB qA B1 A1;go_wp2;go_ret;exact⟨rfl,Iz.below (ZR _) ρp⟩
theorem DQ (k u:aG)(KB VB:Nat)(w:ϖ)(Kb:ah w KB #[k.pos,ι ε k.id] 333)(Vb:ah w VB #[u.pos,ι ε u.id] 333):Calls Ψ 253 #[Kp,KB,VB] w λe w'=>e=ϰ w/\aR w' (.node w .nil ⟨k,u⟩ .nil)/\Below w w w':=by
 have Rr:=θ2 Kb.r Vb.r;go_in;go_wp2_with fail;refine mL (θ3 (Ks (λ_=>False) w) Kb Vb) (λv=>ah v w (cz ⟨k,u⟩ Kp Kp ⟨⟨0,0⟩,⟨0,0⟩⟩ 0 0) 372/\w.heap.size<v) ⟨ρB,by simp⟩ ?_;clear Rr;rintro v1 ⟨X1,Z1⟩ ⟨F',Ng,Oy⟩ Rr;have Ss:=X1.r;refine(fN w .nil .nil ⟨k,u⟩ ⟨⟨0,0⟩,⟨0,0⟩⟩ 0 0 _ X1 trivial trivial (by simp[PT.bs]) (by simp[PT.bs]) ρf ρf).mono ?_;rintro e v2 ⟨rfl,X2,kx⟩;go_wp2;go_ret;exact⟨rfl,⟨X2,trivial,trivial⟩,F'.size2 kx⟩
theorem AT.many_bal (l:AT)(i:ay)(r:AT):(AT.bal l i r).many=1+l.many+r.many:=by rw[AT.many_items,AT.items_bal];have:=AT.many_items l;have:=AT.many_items r;simp only[ZL,mM];omega
theorem AT.many_ins (t:AT)(x:ay):(t.ins x).many<=1+t.many:=by
 induction t with
 | nil=>simp[AT.ins,AT.many]
 | node l i r hl hr=>
  unfold AT.ins;split
  ·omega
  ·split
   ·rw[AT.many_bal];simp only[AT.many];omega
   ·rw[AT.many_bal];simp only[AT.many];omega
theorem kU (k u:aG)(KB VB N:Nat):∀(t:PT)(w:ϖ),aR w t->t.Apart->(∀x ∈ t.bs,x<N)->N<=KB->N<=VB->ah w KB #[k.pos,ι ε k.id] 333->ah w VB #[u.pos,ι ε u.id] 333->(∀y ∈ t.bare.items,y.key≠k)->t.many<=1073741824->
  Calls Ψ 252 #[t.ptr,rk k,.func (.func 253) #[] #[KB,VB]] w λe w'=>∃t':PT,e=ϰ t'.ptr/\t'.bare=AT.ins t.bare ⟨k,u⟩/\aR w' t'/\t'.Apart/\(∀x ∈ t'.bs,x ∈ t.bs\/w<=x)/\KO (λx=>x ∈ t.bs) w w'
 | .nil,w,_,_,_,_,_,Kb,Vb,_,_=>by show Calls Ψ 252 #[Kp,rk k,.func (.func 253) #[] #[KB,VB]] w λe w'=>∃t':PT,e=ϰ t'.ptr/\t'.bare=AT.ins PT.nil.bare ⟨k,u⟩/\aR w' t'/\t'.Apart/\(∀x ∈ t'.bs,x ∈ PT.nil.bs\/w<=x)/\KO (λx=>x ∈ PT.nil.bs) w w';have KX:=Kb.cell;have KY:=Kb.frozen;have Lb:=Kb.size;have LI:=Vb.cell;have LJ:=Vb.frozen;have Mk:=Vb.size;go_in;go_wp2_with fail;refine Jw (θ3 (Ks (λ_=>False) w) Kb Vb) (λv=>ah v w #[k.pos,ι ε k.id] 333) ρB ?_;rintro v1 A1 ⟨F',Ng,Oy⟩;replace KX:=Ng.cell;replace KY:=Ng.frozen;replace Lb:=Ng.size;replace LI:=Oy.cell;replace LJ:=Oy.frozen;replace Mk:=Oy.size;replace cA:=A1.cell;replace fA:=A1.frozen;replace zA:=A1.size;have qKb:=af Ng;have qVb:=af Oy;have qA:=af A1;refine Wq ?_;refine pe ?_;refine Zq (θ4 Ng Oy A1 F') ?_;rintro v2 ⟨Nv,Pd,A2,Iz⟩;replace KX:=Nv.cell;replace KY:=Nv.frozen;replace Lb:=Nv.size;replace LI:=Pd.cell;replace LJ:=Pd.frozen;replace Mk:=Pd.size;replace cA:=A2.cell;replace fA:=A2.frozen;replace zA:=A2.size;clear qKb qVb qA Ng Oy A1;go_wp2_with fail;refine Zc (θ4 Iz Nv Pd A2) ?_;rintro v3 ⟨ID,NQ,Pe,A3⟩;replace KX:=NQ.cell;replace KY:=NQ.frozen;replace Lb:=NQ.size;replace LI:=Pe.cell;replace LJ:=Pe.frozen;replace Mk:=Pe.size;replace cA:=A3.cell;replace fA:=A3.frozen;replace zA:=A3.size;refine(DQ k u KB VB _ NQ Pe).mono ?_;rintro e v4 ⟨rfl,X4,kx⟩;go_wp2;go_ret;exact⟨_,rfl,rfl,X4,⟨by simp[PT.bs],by simp[PT.bs],by simp[PT.bs],trivial,trivial⟩,λx hx=>.inr (by simp only[PT.bs,ZC,ZA,List.not_mem_nil,or_false] at hx;subst hx;exact ID.size),(ID.step0 kx).mono (λ_ _ f=>f.elim)⟩
 | .node b l i r,w,T,ap,hN,hK,hV,Kb,Vb,NF,sz=>by
  show Calls Ψ 252 #[b,rk k,.func (.func 253) #[] #[KB,VB]] w λe w'=>∃t':PT,e=ϰ t'.ptr/\t'.bare=AT.ins (PT.node b l i r).bare ⟨k,u⟩/\aR w' t'/\t'.Apart/\(∀x ∈ t'.bs,x ∈ (PT.node b l i r).bs\/w<=x)/\KO (λx=>x ∈ (PT.node b l i r).bs) w w';have B0:=T.1;have L:=T.2.1;have R:=T.2.2;obtain⟨m0,h0,n0,B⟩:∃m0 h0 n0,ah w b (cz i l.ptr r.ptr m0 (h0) (n0)) 372:=⟨_,_,_,B0⟩;have Wb:=ag (show aR w (.node b l i r) from T);clear B0 T;have hi:i.key≠k:=NF i κc;have e0:=xJ i.key k false (ZF hi);have hnl:∀y ∈ l.bare.items,y.key≠k:=λy hy=>NF y κw;have Wr:∀y ∈ r.bare.items,y.key≠k:=λy hy=>NF y κw;have q1:=AT.high_many l.bare;have q2:=AT.high_many r.bare;have Vx:1+l.bare.many+r.bare.many<=1073741824:=sz;have s_l:=ag (show l.many<=1073741824 by simp only[PT.many];omega);have SP:=ag (show r.many<=1073741824 by simp only[PT.many];omega);have cl:l.Apart:=ap.2.2.2.1;have cr:r.Apart:=ap.2.2.2.2;have ap0:=ag ap;simp only[PT.Apart] at ap;have Km:=ag ap;clear ap;simp only[PT.bs,ZC,ZM] at hN;have hNh:=ag hN;have kbb:KB≠b:=by have:=hN b (.inl rfl);omega
  have vbb:VB≠b:=by have:=hN b (.inl rfl);omega
  have hNl:∀x ∈ l.bs,x<N:=λx hx=>hN x (.inr (.inl hx));have hNr:∀x ∈ r.bs,x<N:=λx hx=>hN x (.inr (.inr hx));have S1:=ag Vx;clear hN q1 q2 NF sz Vx;have HL:=ag (And.intro hnl (And.intro hNl cl));have HR:=ag (And.intro Wr (And.intro hNr cr));clear hnl hNl Wr hNr cl cr;by_cases IJ:i.key.lt k
  ·have hs:=ag (show (if i.key.lt k then (1:Int) else 0)=1 from ZP IJ);have OO:=ag IJ;have ph:=ag hi;clear IJ hi;have cB:=B.cell;have fB:=B.frozen;have zB:=B.size;have KX:=Kb.cell;have KY:=Kb.frozen;have Lb:=Kb.size;have LI:=Vb.cell;have LJ:=Vb.frozen;have Mk:=Vb.size;go_in;go_wp2_with fail;refine δp ?_;clear cB fB zB KX KY Lb LI LJ Mk;intro v1 F' v2 B2 L2 R2 Nv Pd A2 Iz cB fB zB KX KY Lb LI LJ Mk cA fA zA;go_wp2_with fail;refine Zc (θ7 Iz B2 L2 R2 Nv Pd A2) ?_;rintro v3 ⟨ID,B3,L3,R3,NQ,Pe,A3⟩;replace cB:=B3.cell;replace fB:=B3.frozen;replace zB:=B3.size;replace KX:=NQ.cell;replace KY:=NQ.frozen;replace Lb:=NQ.size;replace LI:=Pe.cell;replace LJ:=Pe.frozen;replace Mk:=Pe.size;replace cA:=A3.cell;replace fA:=A3.frozen;replace zA:=A3.size;refine(mN b i m0 (PT.ptr l) (PT.ptr r) h0 n0 k 1 _ B3 hs.out).mono ?_;rintro e v4 ⟨rfl,kx⟩;obtain⟨B4,L4,R4,Oh,QE,A4,IC⟩:=Mw kx (θ7 B3 L3 R3 NQ Pe A3 ID);replace cB:=B4.cell;replace fB:=B4.frozen;replace zB:=B4.size;replace KX:=Oh.cell;replace KY:=Oh.frozen;replace Lb:=Oh.size;replace LI:=QE.cell;replace LJ:=QE.frozen;replace Mk:=QE.size;replace cA:=A4.cell;replace fA:=A4.frozen;replace zA:=A4.size;clear kx;go_wp2_with fail;refine Zw (θ7 IC B4 L4 R4 Oh QE A4) ?_;rintro v5 ⟨IN,B5,L5,R5,Qx,TU,A5⟩;replace cB:=B5.cell;replace fB:=B5.frozen;replace zB:=B5.size;replace KX:=Qx.cell;replace KY:=Qx.frozen;replace Lb:=Qx.size;replace LI:=TU.cell;replace LJ:=TU.frozen;replace Mk:=TU.size;replace cA:=A5.cell;replace fA:=A5.frozen;replace zA:=A5.size;go_region_with (first|(go_at_call 252;refine av v5 (λv=>Below v5 v5 v) (λv=>KO (λx=>x ∈ (PT.node b l i r).bs) w v/\ah v (b) (cz i l.ptr r.ptr m0 (h0) (n0)) 372/\aR v l/\aR v r/\ah v (KB) #[k.pos,ι ε k.id] 333/\ah v (VB) #[u.pos,ι ε u.id] 333/\ah v w #[k.pos,ι ε k.id] 333) ρE (λkx=>⟨IN.step0 kx,ρB,L5.below kx,R5.below kx,ρB,ρB,ρB⟩) ?_;rintro v6 ⟨IQ,B6,L6,R6,TI,TV,A6⟩;(replace cB:=B6.cell;replace fB:=B6.frozen;replace zB:=B6.size);(replace KX:=TI.cell;replace KY:=TI.frozen;replace Lb:=TI.size);(replace LI:=TV.cell;replace LJ:=TV.frozen;replace Mk:=TV.size);(replace cA:=A6.cell;replace fA:=A6.frozen;replace zA:=A6.size);refine(kU k u KB VB N r _ R6 HR.out.2.2 HR.out.2.1 hK hV TI TV HR.out.1 SP.out).mono ?_;rintro e v7 ⟨t',rfl,tb,T7,ta,tn,kx⟩;(have B7:=B6.ko kx σc);(have L7:=L6.ko kx ρ6);(have YO:=TI.ko kx σc);(have Zm:=TV.ko kx σc);(have I8:KO (λx=>x ∈ (PT.node b l i r).bs) w v7:=IQ.trans kx ρO);(replace cB:=B7.cell;replace fB:=B7.frozen;replace zB:=B7.size);(replace KX:=YO.cell;replace KY:=YO.frozen;replace Lb:=YO.size);(replace LI:=Zm.cell;replace LJ:=Zm.frozen;replace Mk:=Zm.size);clear kx cA fA zA))
   all_goals
    have bt:b ∉ t'.bs:=λq=>by have ap:=Km.out;have z1:=B7.size;have z2:=IQ.size;have z3:=aR.lt (w:=w) (t:=.node b l i r) Wb.out b (by simp[PT.bs]);rcases tn b q with q|q;exact ax q (by grind);omega
    go_wp2_with fail;refine yO v7 (λx=>x=b) (λv=>ah v (b) (cz i l.ptr t'.ptr m0 (h0) (n0)) 372/\ah v (KB) #[k.pos,ι ε k.id] 333/\ah v (VB) #[u.pos,ι ε u.id] 333) ⟨ρB,ρB,ρB⟩ (λ_ kx=>θ3 (I8.trans kx ρO) (L7.ko kx ρ6) (T7.ko kx τ3)) ?_;rintro v8 ⟨B8,YP,Zn⟩ ⟨Je,L8,T8⟩;replace cB:=B8.cell;replace fB:=B8.frozen;replace zB:=B8.size;replace KX:=YP.cell;replace KY:=YP.frozen;replace Lb:=YP.size;replace LI:=Zn.cell;replace LJ:=Zn.frozen;replace Mk:=Zn.size;have zn:∀x ∈ t'.bs,x ∈ r.bs\/w<=x:=λx hx=>(tn x hx).imp id (λq=>ZK IQ.size q);have zo:∀x ∈ (PT.node b l i r).bs,x<w:=aR.lt (w:=w) (t:=.node b l i r) Wb.out;have aa:(PT.node b l i t').Apart:=τ8;have e1:(PT.bal b l i t').bare=AT.ins (PT.node b l i r).bare ⟨k,u⟩:=by rw[PT.bal_bare,tb];simp only[PT.bare,AT.ins];rw[ZI ph.out,ZP OO.out]
    have e2:t'.many<=1+r.many:=by simp only[PT.many];rw[tb];exact AT.many_ins _ _
    have S2:1+PT.many l+PT.many t'<=1099511627776:=σZ;refine(ie b l t' i m0 h0 n0 _ B8 L8 T8 aa S2).mono ?_;rintro e v9 ⟨rfl,T9,kx⟩;go_wp2;go_ret;refine⟨_,rfl,e1,T9,PT.bal_apart _ _ _ _ aa,λx hx=>?_,KO.of_sub Je kx ?_⟩
    ·exact ξ5
    ·exact ηd
  ·have hs:=ag (show (if i.key.lt k then (1:Int) else 0)=0 from ZI IJ);have OO:=ag IJ;have ph:=ag hi;clear IJ hi;have cB:=B.cell;have fB:=B.frozen;have zB:=B.size;have KX:=Kb.cell;have KY:=Kb.frozen;have Lb:=Kb.size;have LI:=Vb.cell;have LJ:=Vb.frozen;have Mk:=Vb.size;go_in;go_wp2_with fail;refine δp ?_;clear cB fB zB KX KY Lb LI LJ Mk;intro v1 F' v2 B2 L2 R2 Nv Pd A2 Iz cB fB zB KX KY Lb LI LJ Mk cA fA zA;go_wp2_with fail;refine Zc (θ7 Iz B2 L2 R2 Nv Pd A2) ?_;rintro v3 ⟨ID,B3,L3,R3,NQ,Pe,A3⟩;replace cB:=B3.cell;replace fB:=B3.frozen;replace zB:=B3.size;replace KX:=NQ.cell;replace KY:=NQ.frozen;replace Lb:=NQ.size;replace LI:=Pe.cell;replace LJ:=Pe.frozen;replace Mk:=Pe.size;replace cA:=A3.cell;replace fA:=A3.frozen;replace zA:=A3.size;refine(mN b i m0 (PT.ptr l) (PT.ptr r) h0 n0 k 0 _ B3 hs.out).mono ?_;rintro e v4 ⟨rfl,kx⟩;obtain⟨B4,L4,R4,Oh,QE,A4,IC⟩:=Mw kx (θ7 B3 L3 R3 NQ Pe A3 ID);replace cB:=B4.cell;replace fB:=B4.frozen;replace zB:=B4.size;replace KX:=Oh.cell;replace KY:=Oh.frozen;replace Lb:=Oh.size;replace LI:=QE.cell;replace LJ:=QE.frozen;replace Mk:=QE.size;replace cA:=A4.cell;replace fA:=A4.frozen;replace zA:=A4.size;clear kx;go_wp2_with fail;refine Zw (θ7 IC B4 L4 R4 Oh QE A4) ?_;rintro v5 ⟨IN,B5,L5,R5,Qx,TU,A5⟩;replace cB:=B5.cell;replace fB:=B5.frozen;replace zB:=B5.size;replace KX:=Qx.cell;replace KY:=Qx.frozen;replace Lb:=Qx.size;replace LI:=TU.cell;replace LJ:=TU.frozen;replace Mk:=TU.size;replace cA:=A5.cell;replace fA:=A5.frozen;replace zA:=A5.size;go_region_with (first|(go_at_call 252;refine av v5 (λv=>Below v5 v5 v) (λv=>KO (λx=>x ∈ (PT.node b l i r).bs) w v/\ah v (b) (cz i l.ptr r.ptr m0 (h0) (n0)) 372/\aR v l/\aR v r/\ah v (KB) #[k.pos,ι ε k.id] 333/\ah v (VB) #[u.pos,ι ε u.id] 333/\ah v w #[k.pos,ι ε k.id] 333) ρE (λkx=>⟨IN.step0 kx,ρB,L5.below kx,R5.below kx,ρB,ρB,ρB⟩) ?_;rintro v6 ⟨IQ,B6,L6,R6,TI,TV,A6⟩;(replace cB:=B6.cell;replace fB:=B6.frozen;replace zB:=B6.size);(replace KX:=TI.cell;replace KY:=TI.frozen;replace Lb:=TI.size);(replace LI:=TV.cell;replace LJ:=TV.frozen;replace Mk:=TV.size);(replace cA:=A6.cell;replace fA:=A6.frozen;replace zA:=A6.size);refine(kU k u KB VB N l _ L6 HL.out.2.2 HL.out.2.1 hK hV TI TV HL.out.1 s_l.out).mono ?_;rintro e v7 ⟨t',rfl,tb,T7,ta,tn,kx⟩;(have B7:=B6.ko kx σc);(have R7:=R6.ko kx ρ6);(have YO:=TI.ko kx σc);(have Zm:=TV.ko kx σc);(have I8:KO (λx=>x ∈ (PT.node b l i r).bs) w v7:=IQ.trans kx ρO);(replace cB:=B7.cell;replace fB:=B7.frozen;replace zB:=B7.size);(replace KX:=YO.cell;replace KY:=YO.frozen;replace Lb:=YO.size);(replace LI:=Zm.cell;replace LJ:=Zm.frozen;replace Mk:=Zm.size);clear kx cA fA zA))
   all_goals
    have bt:b ∉ t'.bs:=λq=>by have ap:=Km.out;have z1:=B7.size;have z2:=IQ.size;have z3:=aR.lt (w:=w) (t:=.node b l i r) Wb.out b (by simp[PT.bs]);rcases tn b q with q|q;exact ax q (by grind);omega
    go_wp2_with fail;refine yO v7 (λx=>x=b) (λv=>ah v (b) (cz i t'.ptr r.ptr m0 (h0) (n0)) 372/\ah v (KB) #[k.pos,ι ε k.id] 333/\ah v (VB) #[u.pos,ι ε u.id] 333) ⟨ρB,ρB,ρB⟩ (λ_ kx=>θ3 (I8.trans kx ρO) (R7.ko kx ρ6) (T7.ko kx τ3)) ?_;rintro v8 ⟨B8,YP,Zn⟩ ⟨Je,R8,T8⟩;replace cB:=B8.cell;replace fB:=B8.frozen;replace zB:=B8.size;replace KX:=YP.cell;replace KY:=YP.frozen;replace Lb:=YP.size;replace LI:=Zn.cell;replace LJ:=Zn.frozen;replace Mk:=Zn.size;have zn:∀x ∈ t'.bs,x ∈ l.bs\/w<=x:=λx hx=>(tn x hx).imp id (λq=>ZK IQ.size q);have zo:∀x ∈ (PT.node b l i r).bs,x<w:=aR.lt (w:=w) (t:=.node b l i r) Wb.out;have aa:(PT.node b t' i r).Apart:=τ8;have e1:(PT.bal b t' i r).bare=AT.ins (PT.node b l i r).bare ⟨k,u⟩:=by rw[PT.bal_bare,tb];simp only[PT.bare,AT.ins];rw[ZI ph.out,ZI OO.out]
    have e2:t'.many<=1+l.many:=by simp only[PT.many];rw[tb];exact AT.many_ins _ _
    have S2:1+PT.many t'+PT.many r<=1099511627776:=σZ;refine(ie b t' r i m0 h0 n0 _ B8 T8 R8 aa S2).mono ?_;rintro e v9 ⟨rfl,T9,kx⟩;go_wp2;go_ret;refine⟨_,rfl,e1,T9,PT.bal_apart _ _ _ _ aa,λx hx=>?_,KO.of_sub Je kx ?_⟩
    ·exact ξ5
    ·exact ηd
theorem xL (a b:aG)(c:Bool)(hc:decide (a=b)=!c)(v:ϖ):(binOp .neq 333 (rk a) (rk b)).run Ψ v=.ok (β c) v:=by rw[run_neq_struct];have:=xK 9998 a b v;rw[show (Op.equalIn 10000 333 (rk a) (rk b)).run Ψ v=.ok (decide (a=b)) v from this,hc];simp[Result.andThen]
def PT.sz:PT->Nat
 | .nil=>0
 | .node _ l _ r=>1+l.sz+r.sz
theorem PT.adr_nil:PT.adr .nil=none:=rfl
theorem PT.adr_node (b:Nat)(l:PT)(i:ay)(r:PT):PT.adr (.node b l i r)=some ⟨b,0,none⟩:=rfl
theorem wa (T:Nat)(t:PT)(k:aG)(w:ϖ)(T_:ah w T #[t.ptr] 263)(R_:aR w t)(o:AT.Ord t.bare)(h:∀y ∈ t.bare.items,y.key≠k):Calls Ψ 251 #[T,rk k] w λe w'=>(e=ϰ Kp)/\Below w w w':=by
 have T0:=T_;have R:=R_;clear T_ R_;have T':=T0;have HO:=ag o;have HH:=ag h;clear o h;have Rr:=T0.r;go_in;go_wp2_with fail;refine Jw (θ2 (Ks (λ_=>False) w) R) (λv=>ah v w #[k.pos,ι ε k.id] 333) ρB ?_;rintro v1 A1 ⟨F',R1⟩;replace Rr:=A1.r;go_loopg [5] t.sz (λg x wr=>∃s:PT,x=s.ptr/\s.sz=g/\aR wr s/\ah wr w #[k.pos,ι ε k.id] 333/\KO (λ_=>False) w wr/\Hid (AT.Ord s.bare)/\Hid (∀y ∈ s.bare.items,y.key≠k));case atStart=>exact⟨t,rfl,rfl,R1,A1,F',HO,HH⟩
 case round=>
  obtain⟨s,rfl,hg,S,A,k0,hO,hH⟩:=hrel;clear R1 A1 F' HO HH R T0 T';have Ss:=A.r;have XV:=ag hg;clear hg;cases s with
  | nil=>simp only[PT.ptr,PT.adr_nil];go_wp2_with fail;refine bS (θ2 (Ks (λ_=>False) wr) A) ?_;clear Rr Ss;rintro v1 ⟨F',A1⟩ Rr;have q:=af A1;refine Wq ?_;refine pe ?_;refine bF (θ2 A1 F') ?_;clear Rr;rintro v2 ⟨A2,Iz⟩ Rr;clear q A1;go_wp2;go_ret;exact⟨rfl,(k0.trans Iz (λ_ _ f=>f)).below (ZR _) (λ_ _ f=>f)⟩
  | node b l i r=>
   simp only[PT.ptr,PT.adr_node];have B0:=S.1;have L:=S.2.1;have R:=S.2.2;obtain⟨m0,h0,n0,B⟩:∃m0 h0 n0,ah wr b (cz i l.ptr r.ptr m0 (h0) (n0)) 372:=⟨_,_,_,B0⟩;clear B0 S;replace Ss:=B.r;obtain⟨o1,o2,o3,o4⟩:=AT.ord_node.1 hO.out;have hi:i.key≠k:=hH.out i κc;have e0:=xL i.key k true τk;by_cases IJ:i.key.lt k
   ·have hx:∀y ∈ r.bare.items,y.key≠k:=λy hy=>hH.out y κw;exact ξj
   ·have hx:∀y ∈ l.bare.items,y.key≠k:=λy hy=>hH.out y κw;exact ξk
theorem uu (T:Nat)(t:PT)(k:aG)(w:ϖ)(T_:ah w T #[t.ptr] 263)(R_:aR w t)(o:AT.Ord t.bare)(h:∃y ∈ t.bare.items,y.key=k):Calls Ψ 251 #[T,rk k] w λe w'=>(∃a,e=ϰ (ψ (some a)))/\Below w w w':=by
 have T0:=T_;have R:=R_;clear T_ R_;have T':=T0;have HO:=ag o;have HH:=ag h;clear o h;have Rr:=T0.r;go_in;go_wp2_with fail;refine Jw (θ2 (Ks (λ_=>False) w) R) (λv=>ah v w #[k.pos,ι ε k.id] 333) ρB ?_;rintro v1 A1 ⟨F',R1⟩;replace Rr:=A1.r;go_loopg [5] t.sz (λg x wr=>∃s:PT,x=s.ptr/\s.sz=g/\aR wr s/\ah wr w #[k.pos,ι ε k.id] 333/\KO (λ_=>False) w wr/\Hid (AT.Ord s.bare)/\Hid (∃y ∈ s.bare.items,y.key=k));case atStart=>exact⟨t,rfl,rfl,R1,A1,F',HO,HH⟩
 case round=>
  obtain⟨s,rfl,hg,S,A,k0,hO,hH⟩:=hrel;clear R1 A1 F' HO HH R T0 T';have Ss:=A.r;have XV:=ag hg;clear hg;cases s with
  | nil=>obtain⟨y,hy,_⟩:=hH.out;exact ax hy κc
  | node b l i r=>
   simp only[PT.ptr,PT.adr_node];have B0:=S.1;have L:=S.2.1;have R:=S.2.2;obtain⟨m0,h0,n0,B⟩:∃m0 h0 n0,ah wr b (cz i l.ptr r.ptr m0 (h0) (n0)) 372:=⟨_,_,_,B0⟩;clear B0 S;replace Ss:=B.r;obtain⟨o1,o2,o3,o4⟩:=AT.ord_node.1 hO.out;by_cases hi:i.key=k
   ·have e0:=xL i.key k false τk;have hi':=ag hi;have H1:=ag (And.intro o1 (And.intro o2 (And.intro o3 o4)));clear hi o1 o2 o3 o4;go_wp2_with fail;refine bS (θ3 (Ks (λ_=>False) wr) A B) ?_;clear Rr Ss;rintro v1 ⟨F',A1,B1⟩ Rr;have q:=θ2 (af A1) (af B1);refine Wq ?_;refine pe ?_;refine bF (θ3 A1 B1 F') ?_;clear Rr;rintro v2 ⟨A2,B2,Iz⟩ Rr;clear q A1 B1;go_wp2;go_ret;exact⟨⟨_,rfl⟩,(k0.trans Iz (λ_ _ f=>f)).below (ZR _) (λ_ _ f=>f)⟩
   ·have e0:=xL i.key k true τk;by_cases IJ:i.key.lt k
    ·have hx:∃y ∈ r.bare.items,y.key=k:=by
       obtain⟨y,hy,hk⟩:=hH.out;exact ξ8
     exact ξj
    ·have hx:∃y ∈ l.bare.items,y.key=k:=by
       obtain⟨y,hy,hk⟩:=hH.out;exact ηh
     exact ξk
def bj (w:ϖ)(T:Nat)(t:PT):Prop:=ah w T #[t.ptr] 263/\aR w t/\t.Apart/\T ∉ t.bs
theorem nO (T:Nat)(t:PT)(x:ay)(w:ϖ)(H:bj w T t)(o:AT.Ord t.bare)(hn:∀y ∈ t.bare.items,y.key≠x.key)(hz:t.many<=1073741824):Calls Ψ 209 #[T,rk x.key,rk x.val] w λe w'=>e=ϰ Kz/\∃t',bj w' T t'/\t'.bare=t.bare.ins x/\(∀b ∈ t'.bs,b ∈ t.bs\/w<=b)/\KO (λb=>b=T\/b ∈ t.bs) w w':=by
 obtain⟨T',R,ha,hT⟩:=H;have HO:=ag o;have HN:=ag hn;have sz:=ag hz;clear o hn hz;have IJ:=R.lt;have Sc:=T'.cell;have Si:=T'.frozen;have Rk:=T'.size;go_in;go_wp2_with fail;refine Jc (θ3 (Ks (λb=>b=T\/b ∈ t.bs) w) T' R) (λv=>ah v w #[x.key.pos,ι ε x.key.id] 333/\ah v (w+1) #[x.val.pos,ι ε x.val.id] 333) ⟨ρB,ρB⟩ ?_;rintro v1 ⟨Ng,Oy⟩ ⟨F',Kr,R1⟩;replace Sc:=Kr.cell;replace Si:=Kr.frozen;replace Rk:=Kr.size;replace KX:=Ng.cell;replace KY:=Ng.frozen;replace Lb:=Ng.size;replace LI:=Oy.cell;replace LJ:=Oy.frozen;replace Mk:=Oy.size;refine(wa T t x.key _ Kr R1 HO.out HN.out).mono ?_;rintro e v2 ⟨rfl,kx⟩;obtain⟨KW,R2,Nv,Pd,Iz⟩:=Mw kx (θ5 Kr R1 Ng Oy F');replace Sc:=KW.cell;replace Si:=KW.frozen;replace Rk:=KW.size;replace KX:=Nv.cell;replace KY:=Nv.frozen;replace Lb:=Nv.size;replace LI:=Pd.cell;replace LJ:=Pd.frozen;replace Mk:=Pd.size;clear kx;go_wp2_with fail;refine Zw (θ5 Iz KW R2 Nv Pd) ?_;rintro v3 ⟨ID,KA,R3,NQ,Pe⟩;replace Sc:=KA.cell;replace Si:=KA.frozen;replace Rk:=KA.size;replace KX:=NQ.cell;replace KY:=NQ.frozen;replace Lb:=NQ.size;replace LI:=Pe.cell;replace LJ:=Pe.frozen;replace Mk:=Pe.size;go_region_with (first|(go_at_call 252;refine av v3 (λv=>Below v3 v3 v) (λv=>KO (λb=>b=T\/b ∈ t.bs) w v/\ah v (T) #[t.ptr] 263/\aR v t/\ah v w #[x.key.pos,ι ε x.key.id] 333/\ah v (w+1) #[x.val.pos,ι ε x.val.id] 333) ρE (λkx=>⟨ID.step0 kx,ρB,R3.below kx,ρB,ρB⟩) ?_;rintro v4 ⟨IC,Kt,R4,Oh,QE⟩;(replace Sc:=Kt.cell;replace Si:=Kt.frozen;replace Rk:=Kt.size);(replace KX:=Oh.cell;replace KY:=Oh.frozen;replace Lb:=Oh.size);(replace LI:=QE.cell;replace LJ:=QE.frozen;replace Mk:=QE.size);refine(kU x.key x.val w (w+1) w t _ R4 ha IJ (ZR _) (Nat.le_succ _) Oh QE HN.out sz.out).mono ?_;rintro e v5 ⟨t',rfl,tb,Q5,ta,tn,kx⟩;(have NR:=Kt.ko kx σl);(have Qx:=Oh.ko kx σl);(have TU:=QE.ko kx σl);(have IN:KO (λb=>b=T\/b ∈ t.bs) w v5:=IC.trans kx ρc);(replace Sc:=NR.cell;replace Si:=NR.frozen;replace Rk:=NR.size);(replace KX:=Qx.cell;replace KY:=Qx.frozen;replace Lb:=Qx.size);(replace LI:=TU.cell;replace LJ:=TU.frozen;replace Mk:=TU.size);clear kx))
 all_goals
  have zt:=Kt.size;have zs:=IC.size;have Tm:T ∉ t'.bs:=λq=>by rcases tn T q with q|q;exact hT q;omega
  go_wp2_with fail;refine eu v5 (λx=>x=T) (λv=>ah v (T) #[t'.ptr] 263) ρB κv ?_;rintro v6 Oi ⟨IQ,Q6⟩;replace Sc:=Oi.cell;replace Si:=Oi.frozen;replace Rk:=Oi.size;go_ret;exact⟨rfl,t',⟨Oi,Q6,ta,Tm⟩,tb,λb hb=>(tn b hb).imp id (λq=>ZK IC.size q),IQ⟩
theorem AT.many_del (t:AT)(k:aG)(o:AT.Ord t)(h:∃y ∈ t.items,y.key=k):(t.del k).many<=t.many:=by rw[AT.many_items,AT.many_items,AT.del_items t k o h];have:=ZH (λy:ay=>decide (y.key≠k)) t.items;omega
def kI (t:PT):Prop:=∀(k:aG)(w:ϖ),aR w t->t.Apart->AT.Ord t.bare->(∃y ∈ t.bare.items,y.key=k)->t.many<=1073741824->
  Calls Ψ 252 #[t.ptr,rk k,.func (.func 269) #[] #[]] w λe w'=>∃t':PT,e=ϰ t'.ptr/\t'.bare=t.bare.del k/\aR w' t'/\t'.Apart/\(∀x ∈ t'.bs,x ∈ t.bs)/\KO (λx=>x ∈ t.bs) w w'
theorem ux (b:Nat)(l:PT)(i m0:ay)(h0 n0:Int)(w:ϖ)(B:ah w b (cz i l.ptr Kp m0 (h0) (n0)) 372):Calls Ψ 269 #[b] w λe w'=>e=ϰ l.ptr/\w=w':=by
 have Rr:=B.r;go_in;go_wp2;go_ret;exact⟨rfl,rfl⟩
theorem uy (b rb:Nat)(l rl rr:PT)(i ri m0:ay)(h0 n0:Int)(w:ϖ)(B:ah w b (cz i l.ptr rb m0 (h0) (n0)) 372)(L:aR w l)(R:aR w (PT.node rb rl ri rr))(ap:(PT.node b l i (PT.node rb rl ri rr)).Apart)(o:AT.Ord (PT.node rb rl ri rr).bare)(sz:1+l.many+(PT.node rb rl ri rr).many<=1073741824)(ih:kI (PT.node rb rl ri rr)):Calls Ψ 269 #[b] w λe w'=>∃t':PT,e=ϰ t'.ptr/\t'.bare=AT.bal l.bare (rl.bare.first ri) (AT.del (PT.node rb rl ri rr).bare (rl.bare.first ri).key)/\aR w' t'/\t'.Apart/\(∀x ∈ t'.bs,x ∈ (PT.node b l i (PT.node rb rl ri rr)).bs)/\KO (λx=>x ∈ (PT.node b l i (PT.node rb rl ri rr)).bs) w w':=by
 obtain⟨f,ef⟩:=Nq (rl.bare.first ri);rw[ef];have q1:=AT.high_many l.bare;have q2:=AT.high_many rl.bare;have q3:=AT.high_many rr.bare;have Has:∃y ∈ (PT.node rb rl ri rr).bare.items,y.key=f.key:=by obtain⟨z,hz⟩:=AT.first_node rl.bare ri rr.bare;exact⟨f,by show f ∈ (AT.node rl.bare ri rr.bare).items;rw[hz,ef];simp,rfl⟩
 have HH:=ag Has;have HO:=ag o;have SZ:=ag sz;have sr:=ag (show (PT.node rb rl ri rr).many<=1073741824 by simp only[PT.many,PT.bare,AT.many] at*;omega);have IH:=ag (show ∀w,aR w (PT.node rb rl ri rr)->Calls Ψ 252 #[rb,rk f.key,.func (.func 269) #[] #[]] w λe w'=>∃t':PT,e=ϰ t'.ptr/\t'.bare=(PT.node rb rl ri rr).bare.del f.key/\aR w' t'/\t'.Apart/\(∀x ∈ t'.bs,x ∈ (PT.node rb rl ri rr).bs)/\KO (λx=>x ∈ (PT.node rb rl ri rr).bs) w w' from λw R=>ih f.key w R ap.2.2.2.2 o Has sr.out);have ap0:=ap;simp only[PT.Apart,PT.bs,ZC,ZM,not_or] at ap;have Km:=ag ap;have EF:=ag ef;clear Has o ih sz ap ap0 q1 q2 q3 ef;have cB:=B.cell;have fB:=B.frozen;have zB:=B.size;go_in;go_wp2_with fail;refine Zw (θ4 (Ks (λx=>x ∈ (PT.node b l i (PT.node rb rl ri rr)).bs) w) B L R) ?_;rintro v1 ⟨F',B1,L1,R1⟩;replace cB:=B1.cell;replace fB:=B1.frozen;replace zB:=B1.size;go_loopg [3] (PT.node rb rl ri rr).sz (λg x wr=>∃(c:Nat) (a d:PT) (j:ay),x=c/\(PT.node c a j d).sz=g/\aR wr (.node c a j d)/\Hid (a.bare.first j=f)/\(∀x ∈ (PT.node c a j d).bs,x ∈ (PT.node rb rl ri rr).bs)/\wr=v1);case atStart=>exact⟨rb,rl,rr,ri,rfl,rfl,R1,EF,λx hx=>hx,rfl⟩
 case round=>
  obtain⟨c,a,d,j,rfl,hg,S,hf,ME,rfl⟩:=hrel;have XV:=ag hg;clear hg;have C0:=S.1;have A:=S.2.1;have C0':=C0;cases a with
  | nil=>
   obtain⟨m1,h1,n1,C⟩:∃m1 h1 n1,ah wr c (cz j Kp d.ptr m1 (h1) (n1)) 372:=⟨_,_,_,C0⟩;have hcr:c ∈ PT.bs (PT.node rb rl ri rr):=ME c (by simp[PT.bs]);obtain rfl:j=f:=hf.out;have cb:c≠b:=by rintro rfl;have ap:=Km.out;simp only[PT.bs,ZC,ZM] at hcr;grind
   clear C0 C0' S A hf ME EF;have cC:=C.cell;have fC:=C.frozen;have zC:=C.size;have C1:=C;clear C;go_wp2_with fail;refine gX wr (λx=>x=b) (λv=>ah v (b) (cz j l.ptr rb m0 (h0) (n0)) 372/\ah v (c) (cz j Kp d.ptr m1 (h1) (n1)) 372) ⟨ρB,ρB⟩ (λ_ kx=>θ3 (F'.trans kx σj) (L1.ko kx ρV) (R1.ko kx ρV)) ?_;rintro v2 ⟨B2,C2⟩ ⟨Iz,L2,R2⟩;replace cB:=B2.cell;replace fB:=B2.frozen;replace zB:=B2.size;replace cC:=C2.cell;replace fC:=C2.frozen;replace zC:=C2.size;go_region_with (first|(go_at_call 252;refine av v2 (λv=>Below v2 v2 v) (λv=>KO (λx=>x ∈ (PT.node b l i (PT.node rb rl ri rr)).bs) w v/\ah v (b) (cz j l.ptr rb m0 (h0) (n0)) 372/\aR v l/\aR v (PT.node rb rl ri rr)/\ah v (c) (cz j Kp d.ptr m1 (h1) (n1)) 372) ρE (λkx=>⟨Iz.step0 kx,ρB,L2.below kx,R2.below kx,ρB⟩) ?_;rintro v3 ⟨ID,B3,L3,R3,C3⟩;(replace cB:=B3.cell;replace fB:=B3.frozen;replace zB:=B3.size);(replace cC:=C3.cell;replace fC:=C3.frozen;replace zC:=C3.size);refine(IH.out _ R3).mono ?_;rintro e v4 ⟨t',rfl,tb,Q4,ta,tn,kx⟩;(have B4:=B3.ko kx (by intro h;have ap:=Km.out;(try simp only[PT.bs,ZC,ZM] at h);(try dsimp only at h);grind));(have L4:=L3.ko kx ρV);(have IC:KO (λx=>x ∈ (PT.node b l i (PT.node rb rl ri rr)).bs) w v4:=ID.trans kx σj);(replace cB:=B4.cell;replace fB:=B4.frozen;replace zB:=B4.size);clear kx cC fC zC))
   all_goals
    have f':b ∉ t'.bs:=λq=>by have ap:=Km.out;have:=tn b q;simp only[PT.bs,ZC,ZM] at this;grind
    go_wp2_with fail;refine yO v4 (λx=>x=b) (λv=>ah v (b) (cz j l.ptr t'.ptr m0 (h0) (n0)) 372) ρB (λ_ kx=>θ3 (IC.trans kx σj) (L4.ko kx ρV) (Q4.ko kx (by intro x hx h;exact f' (h ▸ hx)))) ?_;rintro v5 B5 ⟨IN,L5,Q5⟩;replace cB:=B5.cell;replace fB:=B5.frozen;replace zB:=B5.size;have aa:(PT.node b l j t').Apart:=by have ap:=Km.out;simp only[PT.bs,ZC,ZM] at tn;simp only[PT.Apart];grind
    have e2:t'.many<=(PT.node rb rl ri rr).many:=by simp only[PT.many];rw[tb];exact AT.many_del _ _ HO.out HH.out
    have S2:1+PT.many l+PT.many t'<=1099511627776:=by have:=SZ.out;omega
    refine(ie b l t' j m0 h0 n0 _ B5 L5 Q5 aa S2).mono ?_;rintro e v6 ⟨rfl,T6,kx⟩;go_wp2;go_ret;refine⟨_,rfl,by rw[PT.bal_bare,tb],T6,PT.bal_apart _ _ _ _ aa,λx hx=>?_,KO.of_sub IN kx ?_⟩
    ·rw[PT.bal_bs] at hx;simp only[PT.bs,ZC,ZM] at hx tn ⊢;grind
    ·intro x hx h;simp only[PT.bs,ZC,ZM] at h tn ⊢;grind
  | node c2 a2 j2 d2=>
   obtain⟨m1,h1,n1,C⟩:∃m1 h1 n1,ah wr c (cz j c2 d.ptr m1 (h1) (n1)) 372:=⟨_,_,_,C0⟩;obtain⟨m2,h2,n2,D⟩:∃m2 h2 n2,ah wr c2 (cz j2 a2.ptr d2.ptr m2 (h2) (n2)) 372:=⟨_,_,_,A.1⟩;have cC:=C.cell;have fC:=C.frozen;have zC:=C.size;have H2:=ag (And.intro A (And.intro hf ME));clear C0 C0' S A hf ME;go_wp2_with fail;go_roundg (PT.node c2 a2 j2 d2).sz;case measure=>exact ξI
   case rel=>exact⟨c2,a2,d2,j2,rfl,rfl,H2.out.1,ag H2.out.2.1.out,λx hx=>H2.out.2.2 x (by simp only[PT.bs,ZC,ZM] at hx ⊢;grind),rfl⟩
theorem vZ:∀(n:Nat)(t:PT),t.sz<=n->kI t:=by
 intro n
 induction n with
 | zero=>
  intro t hz;cases t with
  | nil=>intro k w _ _ _ h _;obtain⟨y,hy,_⟩:=h;exact ax hy κc
  | node b l i r=>simp only[PT.sz] at hz;omega
 | succ n ih=>
 intro t hz k w T ap o h sz;cases t with
 | nil=>obtain⟨y,hy,_⟩:=h;exact ax hy κc
 | node b l i r=>
 simp only[PT.sz] at hz;have ihl:kI l:=ih l ρa;have ihr:kI r:=ih r ρa;clear ih hz;show Calls Ψ 252 #[b,rk k,.func (.func 269) #[] #[]] w λe w'=>∃t':PT,e=ϰ t'.ptr/\t'.bare=(PT.node b l i r).bare.del k/\aR w' t'/\t'.Apart/\(∀x ∈ t'.bs,x ∈ (PT.node b l i r).bs)/\KO (λx=>x ∈ (PT.node b l i r).bs) w w';have Wb:=ag T;have B0:=T.1;have L:=T.2.1;have R:=T.2.2;obtain⟨m0,h0,n0,B⟩:∃m0 h0 n0,ah w b (cz i l.ptr r.ptr m0 (h0) (n0)) 372:=⟨_,_,_,B0⟩;clear B0 T;obtain⟨o1,o2,o3,o4⟩:=AT.ord_node.1 o;have q1:=AT.high_many l.bare;have q2:=AT.high_many r.bare;have Vx:1+l.bare.many+r.bare.many<=1073741824:=sz;have s_l:=ag (show l.many<=1073741824 by simp only[PT.many];omega);have SP:=ag (show r.many<=1073741824 by simp only[PT.many];omega);have ap0:=ag ap;simp only[PT.Apart] at ap;have Km:=ag ap;clear ap;have S1:=ag Vx;have IL:=ag ihl;have IR:=ag ihr;clear q1 q2 sz Vx ihl ihr o;by_cases hi:i.key=k
 ·have e0:=xJ i.key k true (ZT hi);have ph:=ag hi;have O2:=ag o2;clear hi o1 o2 o3 o4 h;cases r with
  | nil=>have B':=B;clear B;have B:ah w b (cz i l.ptr Kp m0 (h0) (n0)) 372:=B';have cB:=B.cell;have fB:=B.frozen;have zB:=B.size;go_in;go_wp2_with fail;refine Jw (θ3 (Ks (λ_=>False) w) B L) (λv=>ah v w #[k.pos,ι ε k.id] 333) ρB ?_;rintro v1 A1 ⟨F',B1,L1⟩;replace cB:=B1.cell;replace fB:=B1.frozen;replace zB:=B1.size;replace cA:=A1.cell;replace fA:=A1.frozen;replace zA:=A1.size;have qB:=af B1;have qA:=af A1;refine Wq ?_;refine pe ?_;refine Zq (θ4 B1 L1 A1 F') ?_;rintro v2 ⟨B2,L2,A2,Iz⟩;replace cB:=B2.cell;replace fB:=B2.frozen;replace zB:=B2.size;replace cA:=A2.cell;replace fA:=A2.frozen;replace zA:=A2.size;clear qB qA B1 L1 A1;go_wp2_with fail;refine Zc (θ4 Iz B2 L2 A2) ?_;rintro v3 ⟨ID,B3,L3,A3⟩;replace cB:=B3.cell;replace fB:=B3.frozen;replace zB:=B3.size;replace cA:=A3.cell;replace fA:=A3.frozen;replace zA:=A3.size;refine(ux b l i m0 h0 n0 _ B3).mono ?_;rintro e u ⟨rfl,rfl⟩;go_wp2;go_ret;exact⟨l,rfl,by simp only[PT.bare,AT.del];rw[ZP ph.out],L3,ap0.out.2.2.2.1,λx hx=>by simp[PT.bs,hx],ID.mono (λ_ _ f=>f.elim)⟩
  | node rb rl ri rr=>have B':=B;clear B;have B:ah w b (cz i l.ptr rb m0 (h0) (n0)) 372:=B';have cB:=B.cell;have fB:=B.frozen;have zB:=B.size;go_in;go_wp2_with fail;refine Jw (θ4 (Ks (λ_=>False) w) B L R) (λv=>ah v w #[k.pos,ι ε k.id] 333) ρB ?_;refine δl ?_;clear cB fB zB;intro v1 F' v2 B2 L2 R2 A2 Iz cB fB zB cA fA zA;go_wp2_with fail;refine Zc (θ5 Iz B2 L2 R2 A2) ?_;rintro v3 ⟨ID,B3,L3,R3,A3⟩;replace cB:=B3.cell;replace fB:=B3.frozen;replace zB:=B3.size;replace cA:=A3.cell;replace fA:=A3.frozen;replace zA:=A3.size;refine(uy b rb l rl rr i ri m0 h0 n0 _ B3 L3 R3 ap0.out O2.out σZ IR.out).mono ?_;rintro e v4 ⟨t',rfl,tb,T4,ta,tn,kx⟩;go_wp2;go_ret;exact⟨t',rfl,by rw[tb];simp only[PT.bare];conv=>rhs;unfold AT.del;rw[ZP ph.out],T4,ta,tn,(ID.mono (λ_ _ f=>f.elim)).trans kx (λx _ h=>h)⟩
 ·have e0:=xJ i.key k false (ZF hi);by_cases IJ:i.key.lt k
  ·have hx:∃y ∈ r.bare.items,y.key=k:=by
    obtain⟨y,hy,hk⟩:=h;exact ξ8
   have hs:=ag (show (if i.key.lt k then (1:Int) else 0)=1 from ZP IJ);have OX:=ag o2;have HX:=ag hx;have OO:=ag IJ;have ph:=ag hi;clear IJ hi h hx o1 o2 o3 o4;have cB:=B.cell;have fB:=B.frozen;have zB:=B.size;go_in;go_wp2_with fail;refine Jw (θ4 (Ks (λx=>x ∈ (PT.node b l i r).bs) w) B L R) (λv=>ah v w #[k.pos,ι ε k.id] 333) ρB ?_;refine δl ?_;clear cB fB zB;intro v1 F' v2 B2 L2 R2 A2 Iz cB fB zB cA fA zA;go_wp2_with fail;refine Zc (θ5 Iz B2 L2 R2 A2) ?_;rintro v3 ⟨ID,B3,L3,R3,A3⟩;replace cB:=B3.cell;replace fB:=B3.frozen;replace zB:=B3.size;replace cA:=A3.cell;replace fA:=A3.frozen;replace zA:=A3.size;refine(mN b i m0 (PT.ptr l) (PT.ptr r) h0 n0 k 1 _ B3 hs.out).mono ?_;rintro e v4 ⟨rfl,kx⟩;obtain⟨B4,L4,R4,A4,IC⟩:=Mw kx (θ5 B3 L3 R3 A3 ID);replace cB:=B4.cell;replace fB:=B4.frozen;replace zB:=B4.size;replace cA:=A4.cell;replace fA:=A4.frozen;replace zA:=A4.size;clear kx;go_wp2_with fail;refine Zw (θ5 IC B4 L4 R4 A4) ?_;rintro v5 ⟨IN,B5,L5,R5,A5⟩;replace cB:=B5.cell;replace fB:=B5.frozen;replace zB:=B5.size;replace cA:=A5.cell;replace fA:=A5.frozen;replace zA:=A5.size;go_region_with (first|(go_at_call 252;refine av v5 (λv=>Below v5 v5 v) (λv=>KO (λx=>x ∈ (PT.node b l i r).bs) w v/\ah v (b) (cz i l.ptr r.ptr m0 (h0) (n0)) 372/\aR v l/\aR v r/\ah v w #[k.pos,ι ε k.id] 333) ρE (λkx=>⟨IN.step0 kx,ρB,L5.below kx,R5.below kx,ρB⟩) ?_;rintro v6 ⟨IQ,B6,L6,R6,A6⟩;(replace cB:=B6.cell;replace fB:=B6.frozen;replace zB:=B6.size);(replace cA:=A6.cell;replace fA:=A6.frozen;replace zA:=A6.size);refine(IR.out k _ R6 Km.out.2.2.2.2 OX.out HX.out SP.out).mono ?_;rintro e v7 ⟨t',rfl,tb,T7,ta,tn,kx⟩;(have B7:=B6.ko kx σ6);(have L7:=L6.ko kx σd);(have I8:KO (λx=>x ∈ (PT.node b l i r).bs) w v7:=IQ.trans kx ρO);(replace cB:=B7.cell;replace fB:=B7.frozen;replace zB:=B7.size);clear kx cA fA zA))
   all_goals
    have bt:b ∉ t'.bs:=λq=>by have ap:=Km.out;have:=tn b q;grind
    go_wp2_with fail;refine yO v7 (λx=>x=b) (λv=>ah v (b) (cz i l.ptr t'.ptr m0 (h0) (n0)) 372) ρB (λ_ kx=>θ3 (I8.trans kx ρO) (L7.ko kx σd) (T7.ko kx τ3)) ?_;rintro v8 B8 ⟨Je,L8,T8⟩;replace cB:=B8.cell;replace fB:=B8.frozen;replace zB:=B8.size;have aa:(PT.node b l i t').Apart:=by have ap:=Km.out;simp only[PT.Apart];grind
    have e1:(PT.bal b l i t').bare=AT.del (PT.node b l i r).bare k:=by rw[PT.bal_bare,tb];simp only[PT.bare];conv=>rhs;unfold AT.del;rw[ZI ph.out,ZP OO.out]
    have e2:t'.many<=r.many:=by simp only[PT.many];rw[tb];exact AT.many_del _ _ OX.out HX.out
    have S2:1+PT.many l+PT.many t'<=1099511627776:=σZ;refine(ie b l t' i m0 h0 n0 _ B8 L8 T8 aa S2).mono ?_;rintro e v9 ⟨rfl,T9,kx⟩;go_wp2;go_ret;refine⟨_,rfl,e1,T9,PT.bal_apart _ _ _ _ aa,λx hx=>?_,KO.of_sub Je kx ?_⟩
    ·exact ξ5
    ·exact ηd
  ·have hx:∃y ∈ l.bare.items,y.key=k:=by
    obtain⟨y,hy,hk⟩:=h;exact ηh
   have hs:=ag (show (if i.key.lt k then (1:Int) else 0)=0 from ZI IJ);have OX:=ag o1;have HX:=ag hx;have OO:=ag IJ;have ph:=ag hi;clear IJ hi h hx o1 o2 o3 o4;have cB:=B.cell;have fB:=B.frozen;have zB:=B.size;go_in;go_wp2_with fail;refine Jw (θ4 (Ks (λx=>x ∈ (PT.node b l i r).bs) w) B L R) (λv=>ah v w #[k.pos,ι ε k.id] 333) ρB ?_;refine δl ?_;clear cB fB zB;intro v1 F' v2 B2 L2 R2 A2 Iz cB fB zB cA fA zA;go_wp2_with fail;refine Zc (θ5 Iz B2 L2 R2 A2) ?_;rintro v3 ⟨ID,B3,L3,R3,A3⟩;replace cB:=B3.cell;replace fB:=B3.frozen;replace zB:=B3.size;replace cA:=A3.cell;replace fA:=A3.frozen;replace zA:=A3.size;refine(mN b i m0 (PT.ptr l) (PT.ptr r) h0 n0 k 0 _ B3 hs.out).mono ?_;rintro e v4 ⟨rfl,kx⟩;obtain⟨B4,L4,R4,A4,IC⟩:=Mw kx (θ5 B3 L3 R3 A3 ID);replace cB:=B4.cell;replace fB:=B4.frozen;replace zB:=B4.size;replace cA:=A4.cell;replace fA:=A4.frozen;replace zA:=A4.size;clear kx;go_wp2_with fail;refine Zw (θ5 IC B4 L4 R4 A4) ?_;rintro v5 ⟨IN,B5,L5,R5,A5⟩;replace cB:=B5.cell;replace fB:=B5.frozen;replace zB:=B5.size;replace cA:=A5.cell;replace fA:=A5.frozen;replace zA:=A5.size;go_region_with (first|(go_at_call 252;refine av v5 (λv=>Below v5 v5 v) (λv=>KO (λx=>x ∈ (PT.node b l i r).bs) w v/\ah v (b) (cz i l.ptr r.ptr m0 (h0) (n0)) 372/\aR v l/\aR v r/\ah v w #[k.pos,ι ε k.id] 333) ρE (λkx=>⟨IN.step0 kx,ρB,L5.below kx,R5.below kx,ρB⟩) ?_;rintro v6 ⟨IQ,B6,L6,R6,A6⟩;(replace cB:=B6.cell;replace fB:=B6.frozen;replace zB:=B6.size);(replace cA:=A6.cell;replace fA:=A6.frozen;replace zA:=A6.size);refine(IL.out k _ L6 Km.out.2.2.2.1 OX.out HX.out s_l.out).mono ?_;rintro e v7 ⟨t',rfl,tb,T7,ta,tn,kx⟩;(have B7:=B6.ko kx σ6);(have R7:=R6.ko kx σd);(have I8:KO (λx=>x ∈ (PT.node b l i r).bs) w v7:=IQ.trans kx ρO);(replace cB:=B7.cell;replace fB:=B7.frozen;replace zB:=B7.size);clear kx cA fA zA))
   all_goals
    have bt:b ∉ t'.bs:=λq=>by have ap:=Km.out;have:=tn b q;grind
    go_wp2_with fail;refine yO v7 (λx=>x=b) (λv=>ah v (b) (cz i t'.ptr r.ptr m0 (h0) (n0)) 372) ρB (λ_ kx=>θ3 (I8.trans kx ρO) (R7.ko kx σd) (T7.ko kx τ3)) ?_;rintro v8 B8 ⟨Je,R8,T8⟩;replace cB:=B8.cell;replace fB:=B8.frozen;replace zB:=B8.size;have aa:(PT.node b t' i r).Apart:=by have ap:=Km.out;simp only[PT.Apart];grind
    have e1:(PT.bal b t' i r).bare=AT.del (PT.node b l i r).bare k:=by rw[PT.bal_bare,tb];simp only[PT.bare];conv=>rhs;unfold AT.del;rw[ZI ph.out,ZI OO.out]
    have e2:t'.many<=l.many:=by simp only[PT.many];rw[tb];exact AT.many_del _ _ OX.out HX.out
    have S2:1+PT.many t'+PT.many r<=1099511627776:=σZ;refine(ie b t' r i m0 h0 n0 _ B8 T8 R8 aa S2).mono ?_;rintro e v9 ⟨rfl,T9,kx⟩;go_wp2;go_ret;refine⟨_,rfl,e1,T9,PT.bal_apart _ _ _ _ aa,λx hx=>?_,KO.of_sub Je kx ?_⟩
    ·exact ξ5
    ·exact ηd
theorem nN (T:Nat)(t:PT)(x:aG)(w:ϖ)(H:bj w T t)(o:AT.Ord t.bare)(hn:∃y ∈ t.bare.items,y.key=x)(hz:t.many<=1073741824):Calls Ψ 250 #[T,rk x] w λe w'=>e=ϰ Kz/\∃t',bj w' T t'/\t'.bare=t.bare.del x/\(∀b ∈ t'.bs,b ∈ t.bs)/\KO (λb=>b=T\/b ∈ t.bs) w w':=by
 obtain⟨T',R,ha,hT⟩:=H;have HO:=ag o;have HN:=ag hn;have sz:=ag hz;clear o hn hz;have IJ:=R.lt;have Sc:=T'.cell;have Si:=T'.frozen;have Rk:=T'.size;go_in;go_wp2_with fail;refine Jc (θ3 (Ks (λb=>b=T\/b ∈ t.bs) w) T' R) (λv=>ah v w #[x.pos,ι ε x.id] 333) ρB ?_;rintro v1 Ng ⟨F',Kr,R1⟩;replace Sc:=Kr.cell;replace Si:=Kr.frozen;replace Rk:=Kr.size;replace KX:=Ng.cell;replace KY:=Ng.frozen;replace Lb:=Ng.size;refine(uu T t x _ Kr R1 HO.out HN.out).mono ?_;rintro e v2 ⟨⟨a,rfl⟩,kx⟩;obtain⟨KW,R2,Nv,Iz⟩:=Mw kx (θ4 Kr R1 Ng F');replace Sc:=KW.cell;replace Si:=KW.frozen;replace Rk:=KW.size;replace KX:=Nv.cell;replace KY:=Nv.frozen;replace Lb:=Nv.size;clear kx;go_wp2_with fail;refine Zw (θ4 Iz KW R2 Nv) ?_;rintro v3 ⟨ID,KA,R3,NQ⟩;replace Sc:=KA.cell;replace Si:=KA.frozen;replace Rk:=KA.size;replace KX:=NQ.cell;replace KY:=NQ.frozen;replace Lb:=NQ.size;go_region_with (first|(go_at_call 252;refine av v3 (λv=>Below v3 v3 v) (λv=>KO (λb=>b=T\/b ∈ t.bs) w v/\ah v (T) #[t.ptr] 263/\aR v t/\ah v w #[x.pos,ι ε x.id] 333) ρE (λkx=>⟨ID.step0 kx,ρB,R3.below kx,ρB⟩) ?_;rintro v4 ⟨IC,Kt,R4,Oh⟩;(replace Sc:=Kt.cell;replace Si:=Kt.frozen;replace Rk:=Kt.size);(replace KX:=Oh.cell;replace KY:=Oh.frozen;replace Lb:=Oh.size);refine(vZ t.sz t (ZR _) x _ R4 ha HO.out HN.out sz.out).mono ?_;rintro e v5 ⟨t',rfl,tb,Q5,ta,tn,kx⟩;(have NR:=Kt.ko kx σl);(have Qx:=Oh.ko kx σl);(have IN:KO (λb=>b=T\/b ∈ t.bs) w v5:=IC.trans kx ρc);(replace Sc:=NR.cell;replace Si:=NR.frozen;replace Rk:=NR.size);(replace KX:=Qx.cell;replace KY:=Qx.frozen;replace Lb:=Qx.size);clear kx))
 all_goals
  have Tm:T ∉ t'.bs:=λq=>hT (tn T q);go_wp2_with fail;refine eu v5 (λx=>x=T) (λv=>ah v (T) #[t'.ptr] 263) ρB κv ?_;rintro v6 Oi ⟨IQ,Q6⟩;replace Sc:=Oi.cell;replace Si:=Oi.frozen;replace Rk:=Oi.size;go_ret;exact⟨rfl,t',⟨Oi,Q6,ta,Tm⟩,tb,tn,IQ⟩
theorem DP (T:Nat)(t:PT)(n:Int)(w:ϖ)(H:bj w T t)(hn:t.many=n):Calls Ψ 255 #[T] w λe w'=>e=ϰ (ι ε n)/\w=w':=by
 obtain⟨B,R,_,_⟩:=H;have Wn:=ag hn;clear hn;have Rr:=B.r;go_in;go_wp2_with fail;refine(wd t n _ R Wn.out).mono ?_;rintro e w' ⟨rfl,rfl⟩;go_wp2;go_ret;exact⟨rfl,rfl⟩
theorem uw (T:Nat)(w:ϖ)(H:bj w T .nil):
  CB 210 #[T] w (χ #[φ (fU 0 0 0 0),dI]):=by
 unfold CB;go_in;go_wp2_with fail;refine(DP T .nil 0 _ ⟨ah.alloc_old H.1 _,trivial,trivial,by simp[PT.bs]⟩ rfl).mono ?_;rintro e w' ⟨rfl,rfl⟩;go_wp2_with fail;refine jF (λv=>Below w w v/\ah v w (fU 0 0 0 0) 335) ⟨ρE,ρB⟩ ?_;rintro v ⟨gv,Bv⟩;have cv:=Bv.cell;refine ZO (v:=χ #[φ (fU 0 0 0 0),dI]) (by simp[results,Tryz.results210,go_sem,cv]) rfl ⟨rfl,gv⟩
theorem kV (T b:Nat)(l r:PT)(i f:ay)(w:ϖ)(H:bj w T (.node b l i r))(hf:l.bare.first i=f):
  CB 210 #[T] w (χ #[φ (fU f.key.pos f.key.id f.val.pos f.val.id),fJ]):=by
 have RJ:=ag hf;clear hf;have T':ah w T #[b] 263:=H.1;have R:=H.2.1;obtain⟨n,hn⟩:=Nq ((PT.node b l i r).many);have q1:=AT.high_many l.bare;have q2:=AT.high_many r.bare;have nb:1<=n:=by rw[<- hn];simp only[PT.many,PT.bare,AT.many];omega
 have nz:(n==0)=false:=ρ7;have Wn:=ag hn;clear hn q1 q2;have Rr:=T'.r;unfold CB;go_in;go_wp2_with fail;refine mL (θ3 (Ks (λ_=>False) w) T' R) (λv=>ah v w (fU 0 0 0 0) 335) ρB ?_;clear Rr;rintro v1 O1 ⟨F',Kr,R1⟩ Rr;have Ss:=O1.r;refine(DP T (.node b l i r) n _ ⟨Kr,R1,H.2.2.1,H.2.2.2⟩ Wn.out).mono ?_;rintro e w' ⟨rfl,rfl⟩;go_wp2_with fail;refine bS (θ4 F' Kr R1 O1) ?_;clear Rr Ss;rintro v2 ⟨Iz,KW,R2,O2⟩ Rr;go_loopg [4] (PT.node b l i r).sz (λg x wr=>∃(c:Nat) (a d:PT) (j:ay),x=c/\(PT.node c a j d).sz=g/\aR wr (.node c a j d)/\Hid (a.bare.first j=f)/\wr=v2);case atStart=>exact⟨b,l,r,i,rfl,rfl,R2,RJ,rfl⟩
 case round=>
  obtain⟨c,a,d,j,rfl,hg,S,hf,rfl⟩:=hrel;have XV:=ag hg;clear hg;have C0:=S.1;have A:=S.2.1;cases a with
  | nil=>obtain⟨m1,h1,n1,C⟩:∃m1 h1 n1,ah wr c (cz j Kp d.ptr m1 (h1) (n1)) 372:=⟨_,_,_,C0⟩;obtain rfl:j=f:=hf.out;clear C0 S A hf RJ;have Ss:=C.r;go_wp2_with fail;refine δK ?_;rintro v ⟨k0,Bv⟩;have cv:=Bv.cell;refine ZO (v:=χ #[φ (fU j.key.pos j.key.id j.val.pos j.val.id),fJ]) (by simp[results,Tryz.results210,go_sem,cv]) rfl ⟨rfl,k0.below (ZR _) (λ_ _ f=>f)⟩
  | node c2 a2 j2 d2=>
   obtain⟨m1,h1,n1,C⟩:∃m1 h1 n1,ah wr c (cz j c2 d.ptr m1 (h1) (n1)) 372:=⟨_,_,_,C0⟩;have Ss:=C.r;have H2:=ag (And.intro A hf);clear C0 S A hf;go_wp2_with fail;go_roundg (PT.node c2 a2 j2 d2).sz;case measure=>exact ξI
   case rel=>exact⟨c2,a2,d2,j2,rfl,rfl,H2.out.1,ag H2.out.2.out,rfl⟩
theorem wb (t:PT)(p:Int)(c:Bool)(w:ϖ)(R:aR w t)(hc:t.bare.hasAt p=c):Calls Ψ 274 #[t.ptr,p] w λe w'=>e=ϰ (β c)/\w=w':=by
 cases t with
 | nil=>obtain rfl:false=c:=hc;show Calls Ψ 274 #[Kp,p] w λe w'=>e=ϰ dI/\w=w';exact ξx
 | node b l i r=>have hd:decide ((PT.lst l i r).val.pos<=p)=c:=hc;show Calls Ψ 274 #[b,p] w λe w'=>e=ϰ (β c)/\w=w';have B0:=R.1;obtain⟨m,h1,n1,B,hm⟩:∃m h1 n1,ah w b (cz i l.ptr r.ptr m (h1) (n1)) 372/\PT.lst l i r=m:=⟨_,_,_,B0,rfl⟩;rw[hm] at hd;clear hm B0 R hc;have Rr:=B.r;exact ξx
theorem uv (T:Nat)(t:PT)(p:Int)(w:ϖ)(H:bj w T t)(hc:t.bare.hasAt p=false):
  CB 258 #[T,p] w (χ #[φ (fU 0 0 0 0),dI]):=by
 obtain⟨B,R,_,_⟩:=H;have Tq:=ag hc;clear hc;have Rr:=B.r;unfold CB;go_in;go_wp2_with fail;refine(wb t p false _ (R.below ρE) Tq.out).mono ?_;rintro e w' ⟨rfl,rfl⟩;go_wp2_with fail;refine jF (λv=>Below w w v/\ah v w (fU 0 0 0 0) 335) ⟨ρE,ρB⟩ ?_;rintro v ⟨gv,Bv⟩;have cv:=Bv.cell;refine ZO (v:=χ #[φ (fU 0 0 0 0),dI]) (by simp[results,Tryz.results258,go_sem,cv]) rfl ⟨rfl,gv⟩
theorem ry (T:Nat)(t:PT)(p:Int)(f:ay)(w:ϖ)(H:bj w T t)(o:AT.Ord t.bare)(hf:t.bare.firstAt p=some f):
  CB 258 #[T,p] w (χ #[φ (fU f.key.pos f.key.id f.val.pos f.val.id),fJ]):=by
 have hh:Hid (t.bare.hasAt p=true):=by have:=AT.firstAt_spec t.bare p o;rw[hf] at this;exact(AT.hasAt_iff t.bare p).2 ⟨f,this.1,this.2.1⟩
 have RJ:=ag hf;clear hf;obtain⟨T',R,_,_⟩:=H;have Rr:=T'.r;unfold CB;go_in;go_wp2_with fail;refine mL (θ3 (Ks (λ_=>False) w) T' R) (λv=>ah v w (fU 0 0 0 0) 335) ρB ?_;clear Rr;rintro v1 O1 ⟨F',Kr,R1⟩ Rr;have Ss:=O1.r;refine(wb t p true _ R1 hh.out).mono ?_;rintro e w' ⟨rfl,rfl⟩;go_wp2_with fail;refine bS (θ4 F' Kr R1 O1) ?_;clear Rr Ss;rintro v2 ⟨Iz,KW,R2,O2⟩ Rr;go_loopg [6] t.sz (λg x wr=>∃s:PT,x=s.ptr/\s.sz=g/\aR wr s/\Hid (s.bare.firstAt p=some f)/\wr=v2);case atStart=>exact⟨t,rfl,rfl,R2,RJ,rfl⟩
 case round=>
  obtain⟨s,rfl,hg,S,hf,rfl⟩:=hrel;have XV:=ag hg;clear hg;cases s with
  | nil=>exact ax hf.out (by simp[PT.bare,AT.firstAt])
  | node c a j d=>
   simp only[PT.ptr,PT.adr_node];have C0:=S.1;have A:=S.2.1;have D:=S.2.2;obtain⟨m1,h1,n1,C⟩:∃m1 h1 n1,ah wr c (cz j a.ptr d.ptr m1 (h1) (n1)) 372:=⟨_,_,_,C0⟩;have Pk:(if a.bare.hasAt p then a.bare.firstAt p else if j.val.pos<=p then some j else d.bare.firstAt p)=some f:=hf.out;clear C0 S hf RJ;have Ss:=C.r;by_cases ha:a.bare.hasAt p=true
   ·rw[ZP ha] at Pk;have Pj:=ag ha;have N6:=ag Pk;clear ha Pk;go_wp2_with fail;refine(wb a p true _ A Pj.out).mono ?_;rintro e w' ⟨rfl,rfl⟩;go_wp2_with fail;go_roundg a.sz;case measure=>exact ξI
    case rel=>exact⟨a,rfl,rfl,A,N6,rfl⟩
   ·have ha2:a.bare.hasAt p=false:=by simpa using ha
    rw[ZI ha] at Pk;by_cases hj:j.val.pos<=p
    ·rw[ZP hj] at Pk;obtain rfl:j=f:=Option.some.inj Pk;have Pj:=ag ha2;clear ha ha2 Pk;have dj:=ZT hj;clear hj;go_wp2_with fail;refine(wb a p false _ A Pj.out).mono ?_;rintro e w' ⟨rfl,rfl⟩;go_wp2_with fail;refine δK ?_;rintro v ⟨k0,Bv⟩;have cv:=Bv.cell;refine ZO (v:=χ #[φ (fU j.key.pos j.key.id j.val.pos j.val.id),fJ]) (by simp[results,Tryz.results258,go_sem,cv]) rfl ⟨rfl,k0.below (ZR _) (λ_ _ f=>f)⟩
    ·rw[ZI hj] at Pk;have dj:=ZF hj;have Pj:=ag ha2;have N6:=ag Pk;clear ha ha2 Pk hj;go_wp2_with fail;refine(wb a p false _ A Pj.out).mono ?_;rintro e w' ⟨rfl,rfl⟩;go_wp2_with fail;go_roundg d.sz;case measure=>exact ξI
     case rel=>exact⟨d,rfl,rfl,D,N6,rfl⟩
theorem AT.better_self (i:ay):AT.better i i=i:=by unfold AT.better;split<;>rfl
theorem Cg (MB OB:Nat)(i z:ay)(w:ϖ)(M:ah w MB #[dI] 4)(O:ah w OB (fU z.key.pos z.key.id z.val.pos z.val.id) 335)(hMO:MB≠OB):Calls Ψ 263 #[φ (fU i.key.pos i.key.id i.val.pos i.val.id),MB,OB] w λe w'=>e=ϰ (χ #[])/\ah w' MB #[fJ] 4/\ah w' OB (fU i.key.pos i.key.id i.val.pos i.val.id) 335/\KO (λx=>x=MB\/x=OB) w w':=by
 have hMO':=hMO.symm;have Rr:=θ2 M.r O.r;go_in;go_wp2_with fail;refine av w (λv=>KO (λx=>x=MB\/x=OB) w v) (λv=>KO (λx=>x=MB\/x=OB) w v/\ah v (MB) #[fJ] 4/\ah v (OB) (fU i.key.pos i.key.id i.val.pos i.val.id) 335/\ah v w (fU i.key.pos i.key.id i.val.pos i.val.id) 335) ρK (λkx=>⟨kx.mono ρc,ρB,ρB,ρB⟩) ?_;rintro v1 ⟨F',M1,O1,A1⟩;replace Rr:=θ3 M1.r O1.r A1.r;refine(kM i i i _ (AT.better_self i)).mono ?_;rintro e v2 ⟨rfl,kx⟩;clear Rr;obtain⟨⟨M2,O2,A2,Iz⟩,Rr⟩:=Mx kx (θ4 M1 O1 A1 F');clear kx;go_wp2_with fail;refine dW v2 (λv=>KO (λx=>x=OB) v2 v) (λv=>KO (λx=>x=MB\/x=OB) w v/\ah v (MB) #[fJ] 4/\ah v (OB) (fU i.key.pos i.key.id i.val.pos i.val.id) 335) ρK (λkx=>⟨Iz.trans kx ρc,ρB,ρB⟩) ?_;rintro v3 ⟨ID,M3,O3⟩;replace Rr:=θ2 M3.r O3.r;go_end0;exact⟨rfl,M3,O3,ID⟩
theorem Ch (MB OB:Nat)(i z m:ay)(w:ϖ)(M:ah w MB #[fJ] 4)(O:ah w OB (fU z.key.pos z.key.id z.val.pos z.val.id) 335)(hMO:MB≠OB)(hm:AT.better z i=m):Calls Ψ 263 #[φ (fU i.key.pos i.key.id i.val.pos i.val.id),MB,OB] w λe w'=>e=ϰ (χ #[])/\ah w' MB #[fJ] 4/\ah w' OB (fU m.key.pos m.key.id m.val.pos m.val.id) 335/\KO (λx=>x=MB\/x=OB) w w':=by
 have hMO':=hMO.symm;have hm:=ag hm;have Rr:=θ2 M.r O.r;go_in;go_wp2_with fail;refine av w (λv=>KO (λx=>x=MB) w v) (λv=>KO (λx=>x=MB\/x=OB) w v/\ah v (MB) #[fJ] 4/\ah v (OB) (fU z.key.pos z.key.id z.val.pos z.val.id) 335/\ah v w (fU i.key.pos i.key.id i.val.pos i.val.id) 335) ρK (λkx=>⟨kx.mono ρc,ρB,ρB,ρB⟩) ?_;rintro v1 ⟨F',M1,O1,A1⟩;replace Rr:=θ3 M1.r O1.r A1.r;refine(kM z i m _ hm.out).mono ?_;rintro e v2 ⟨rfl,kx⟩;clear Rr;obtain⟨⟨M2,O2,A2,Iz⟩,Rr⟩:=Mx kx (θ4 M1 O1 A1 F');clear kx;go_wp2_with fail;refine dW v2 (λv=>KO (λx=>x=OB) v2 v) (λv=>KO (λx=>x=MB\/x=OB) w v/\ah v (MB) #[fJ] 4/\ah v (OB) (fU m.key.pos m.key.id m.val.pos m.val.id) 335) ρK (λkx=>⟨Iz.trans kx ρc,ρB,ρB⟩) ?_;rintro v3 ⟨ID,M3,O3⟩;replace Rr:=θ2 M3.r O3.r;go_end0;exact⟨rfl,M3,O3,ID⟩
abbrev bL (i:ay):Array ϗ:=#[ι υ i.key.pos,ι ε i.key.id,ι υ i.val.pos,ι ε i.val.id]
def yd (o:Option ay)(i:ay):ay:=match o with|none=>i|some z=>AT.better z i
theorem AV (o:Option ay)(i:ay):AT.takeO o (some i)=some (yd o i):=by cases o<;>rfl
theorem Bt (o:Option ay)(MB OB:Nat)(i:ay)(w:ϖ)(M:ah w MB #[β o.isSome] 4)(O:ah w OB (bL (o.getD ⟨⟨0,0⟩,⟨0,0⟩⟩)) 335)(hMO:MB≠OB):Calls Ψ 263 #[φ (bL (i)),MB,OB] w λe w'=>e=ϰ (χ #[])/\ah w' MB #[fJ] 4/\ah w' OB (bL (yd o i)) 335/\KO (λx=>x=MB\/x=OB) w w':=by
 cases o with
 | none=>exact Cg MB OB i _ w M O hMO
 | some z=>exact Ch MB OB i z _ w M O hMO rfl
theorem vY (T:Nat)(t:PT)(p:Int)(f:Option ay)(w:ϖ)(H:bj w T t)(hf:t.bare.bestTo p=f):
  CB 228 #[T,p] w (χ #[φ (bL (f.getD ⟨⟨0,0⟩,⟨0,0⟩⟩)),β f.isSome]):=by
 have RJ:Hid (t.bare.belowAcc p none=f):=hf;obtain⟨T',R,_,_⟩:=H;have OO:=R.lt;have Rr:=T'.r;unfold CB;go_in;go_upto_region 4 with (fail);refine jf (θ3 (Ks (λ_=>False) w) T' R) (λv=>ah v w (fU 0 0 0 0) 335/\ah v (w+1) (fU 0 0 0 0) 335/\ah v (w+1+1) #[dI] 4) ⟨ρB,ρB,ρB⟩ ?_;clear Rr;rintro v1 ⟨V1,O1,M1⟩ ⟨F',Kr,R1⟩ Rr;have Ss:=V1.r;replace cO:=O1.cell;replace fO:=O1.frozen;replace zO:=O1.size;replace cM:=M1.cell;replace fM:=M1.frozen;replace zM:=M1.size;go_wp2_with fail;refine bS (θ6 F' Kr R1 V1 O1 M1) ?_;clear Rr Ss;rintro v2 ⟨Iz,KW,R2,V2,O2,M2⟩ Rr;replace cO:=O2.cell;replace fO:=O2.frozen;replace zO:=O2.size;replace cM:=M2.cell;replace fM:=M2.frozen;replace zM:=M2.size;go_loopg [9] t.sz (λg x wr=>∃(s:PT) (acc:Option ay),x=s.ptr/\s.sz=g/\aR wr s/\ah wr w (fU 0 0 0 0) 335/\ah wr (w+1) (bL (acc.getD ⟨⟨0,0⟩,⟨0,0⟩⟩)) 335/\ah wr (w+1+1) #[β acc.isSome] 4/\KO (λ_=>False) w wr/\Hid (s.bare.belowAcc p acc=f)/\(∀x ∈ s.bs,x<w));case atStart=>exact⟨t,none,rfl,rfl,R2,V2,O2,M2,Iz,RJ,OO⟩
 case round=>
  obtain⟨s,acc,rfl,hg,S,V,O,M,k0,hf,IJ⟩:=hrel;have XV:=ag hg;clear hg;clear cO fO zO cM fM zM T' R V2 O2 M2 KW R2 Iz RJ;have Ss:=V.r;have cO:=O.cell;have fO:=O.frozen;have zO:=O.size;have cM:=M.cell;have fM:=M.frozen;have zM:=M.size;cases s with
  | nil=>
   simp only[PT.ptr,PT.adr_nil];obtain rfl:acc=f:=hf.out;clear hf;obtain⟨mb,emb⟩:=Nq acc.isSome;obtain⟨ob,eob⟩:=Nq (acc.getD ⟨⟨0,0⟩,⟨0,0⟩⟩);rw[emb] at M cM;rw[eob] at O cO;have Emb:=ag emb;have Eob:=ag eob;clear emb eob;go_wp2_with fail;go_region
   all_goals
    go_wp2_with fail;refine dW wr (λv=>KO (λ_=>False) w v) (λv=>KO (λ_=>False) w v/\ah v w (bL (ob)) 335) ((k0.trans (show KO (λx=>x=w.heap.size) _ _ from ρK) ρc)) (λkx=>⟨kx,ρB⟩) ?_;rintro v ⟨k0,Bv⟩;have cv:=Bv.cell;refine ZO (v:=χ #[φ (bL (ob)),β mb]) (by simp[results,Tryz.results228,go_sem,cv]) rfl ⟨by rw[<- Eob.out,<- Emb.out],k0.below (ZR _) (λ_ _ f=>f)⟩
  | node c a j d=>
   simp only[PT.ptr,PT.adr_node];have C0:=S.1;have A:=S.2.1;have D:=S.2.2;obtain⟨m1,h1,n1,C⟩:∃m1 h1 n1,ah wr c (cz j a.ptr d.ptr m1 (h1) (n1)) 372:=⟨_,_,_,C0⟩;have Pk:(if p<j.key.pos then a.bare.belowAcc p acc else d.bare.belowAcc p (AT.takeO (AT.takeO acc (some j)) a.bare.least))=f:=hf.out;clear C0 S hf;have cC:=C.cell;have fC:=C.frozen;have zC:=C.size;by_cases hp:p<j.key.pos
   ·rw[ZP hp] at Pk;have N6:=ag Pk;clear Pk;go_wp2_with fail;go_roundg a.sz;case measure=>exact ξI
    case rel=>exact⟨a,acc,rfl,rfl,A,V,O,M,k0,N6,λx hx=>IJ x (by simp[PT.bs,hx])⟩
   ·rw[ZI hp,AV] at Pk;obtain⟨m,em⟩:=Nq (yd acc j);rw[em] at Pk;have cTk:∀v,ah v (w+1+1) #[β acc.isSome] 4->ah v (w+1) (bL (acc.getD ⟨⟨0,0⟩,⟨0,0⟩⟩)) 335->Calls Ψ 263 #[φ (bL (j)),ψ (some ⟨(w+1+1),0,none⟩),ψ (some ⟨(w+1),0,none⟩)] v λe w'=>e=ϰ (χ #[])/\ah w' (w+1+1) #[fJ] 4/\ah w' (w+1) (bL (m)) 335/\KO (λx=>x=(w.heap.size+1+1)\/x=(w.heap.size+1)) v w':=λv h1 h2=>by have:=Bt acc (w+1+1) (w+1) j v h1 h2 ρa;rw[em] at this;exact this
    have N6:=ag Pk;have cTk':=ag cTk;clear Pk em cTk;have hA:∀x ∈ a.bs,x<w:=λx hx=>IJ x (by simp[PT.bs,hx]);have hD:∀x ∈ d.bs,x<w:=λx hx=>IJ x (by simp[PT.bs,hx]);have hc:c<w:=IJ c (by simp[PT.bs]);have V1:=V;have O1:=O;have M1:=M;have C1:=C;have A1:=A;have D1:=D;have F':=k0;have dp:=ZF hp;clear V O M C A D k0 hp IJ;go_wp2_with fail;refine kL (θ7 F' V1 O1 M1 C1 A1 D1) ?_;clear Rr Ss;rintro v2 ⟨Iz,V2,O2,M2,C2,A2,D2⟩ Rr;replace cO:=O2.cell;replace fO:=O2.frozen;replace zO:=O2.size;replace cM:=M2.cell;replace fM:=M2.frozen;replace zM:=M2.size;replace cC:=C2.cell;replace fC:=C2.frozen;replace zC:=C2.size;refine(cTk'.out _ M2 O2).mono ?_;rintro e v3 ⟨rfl,M3,O3,kx⟩;have V3:=V2.ko kx ρY;have C3:=C2.ko kx ρY;have A3:=A2.ko kx (by intro x hx h;have:=hA x hx;(try dsimp only at h);omega);have D3:=D2.ko kx (by intro x hx h;have:=hD x hx;(try dsimp only at h);omega);have ID:KO (λ_=>False) w v3:=Iz.trans kx ρc;replace Rr:=V3.r;replace cO:=O3.cell;replace fO:=O3.frozen;replace zO:=O3.size;replace cM:=M3.cell;replace fM:=M3.frozen;replace zM:=M3.size;replace cC:=C3.cell;replace fC:=C3.frozen;replace zC:=C3.size;clear kx;rcases A3.root with ⟨e,hl⟩|⟨c2,i2,p2,q2,m2,h2,n2,e,C2,hl,hc2⟩
    ·simp only[PT.ptr,e] at C3 cC;rw[hl] at N6;go_wp2_with fail;go_roundg d.sz;case measure=>exact ξI
     case rel=>exact⟨d,some m,rfl,rfl,D3,V3,O3,M3,ID,N6,hD⟩
    ·simp only[PT.ptr,e] at C3 cC;rw[hl] at N6;have hc3:c2<w:=hA c2 hc2;have Ss:=C2.r;go_wp2_with fail;refine kL (θ7 ID V3 O3 M3 C3 A3 D3) ?_;clear Rr Ss;rintro v4 ⟨IC,V4,O4,M4,C4,A4,D4⟩ Rr;replace cO:=O4.cell;replace fO:=O4.frozen;replace zO:=O4.size;replace cM:=M4.cell;replace fM:=M4.frozen;replace zM:=M4.size;replace cC:=C4.cell;replace fC:=C4.frozen;replace zC:=C4.size;refine(Bt (some m) (w+1+1) (w+1) m2 _ M4 O4 ρa).mono ?_;rintro e v5 ⟨rfl,M5,O5,kx⟩;have D5:=D4.ko kx (by intro x hx h;have:=hD x hx;(try dsimp only at h);omega);have C5:=C4.ko kx ρj;have V5:=V4.ko kx ρj;have IN:KO (λ_=>False) w v5:=IC.trans kx ρc;have cC:=C5.cell;have fC:=C5.frozen;have zC:=C5.size;clear kx C4 V4 M4 O4 D4 C2;go_wp2_with fail;go_roundg d.sz;case measure=>exact ξI
     case rel=>exact⟨d,some (AT.better m m2),rfl,rfl,D5,V5,O5,M5,IN,N6,hD⟩
end Go.Proofs.YtfdlemkplejdnaaGreat
