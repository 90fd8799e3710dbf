/- WholeDelay, part 11. Conditions: none. -/
import Derived.Test.YtfdlemkplejdnaaGreatA8
import Derived.Deep.LoopGhost
namespace Go.Proofs.YtfdlemkplejdnaaGreat
open Go.RowKit Go.Sort
open Value renaming int->ι,pointer->ψ,slice->ζ,tuple->χ,agg->φ,map->μ,bool->β
open IntKind renaming u64->υ,i64->ε,u16->ω
open Ending renaming returned->ϰ
open Go.Proofs.Tryz renaming prog->Ψ,underlying3->Θ,underlying147->Δ,underlying152->Γ,underlying202->Φ,underlying39->Ξ,underlying207->Ω
open Go renaming World->ϖ,Value->ϗ
set_option linter.unusedVariables false
set_option linter.unusedSimpArgs false
set_option maxHeartbeats 8000000
set_option maxRecDepth 100000
theorem Fc (b:Nat)(l r:PT)(i m0:ay)(h0 n0:Int)(w:ϖ)(B:ah w b (ct i l.ptr r.ptr m0 h0 n0) 372)(L:aR w l)(R:aR w r)(bl:b ∉ l.bs)(br:b ∉ r.bs)(sl:l.many<=1099511627776)(sr:r.many<=1099511627776)(ho:¬r.high+1<l.high)(hi:¬l.high+1<r.high):Calls Ψ 271 #[b] w λe w'=>e=ϰ b/\aR w' (PT.node b l i r)/\KO (λx=>x=b) w w':=by
 obtain⟨H1,e1⟩:=Nq l.high;obtain⟨H2,e2⟩:=Nq r.high;rw[e1,e2] at ho hi;have q1:=AT.high_many l.bare;have q2:=AT.high_many r.bare;have z3:0<=H2/\H2<=1099511627776/\H1<=1099511627776/\0<=H1:=by rw[<- e1,<- e2];simp only[PT.high,PT.many] at*;omega
 have z1:H1<=H2+1:=ρa;have z2:H2<=H1+1:=ρa;clear q1 q2 ho hi;have s_l:=ag sl;have TI:=ag sr;clear sl sr;have cL:∀v,aR v l->Calls Ψ 272 #[l.ptr] v λe w'=>e=ϰ (ι ε H1)/\v=w':=λv h=>fz l H1 v h e1;have cR:∀v,aR v r->Calls Ψ 272 #[r.ptr] v λe w'=>e=ϰ (ι ε H2)/\v=w':=λv h=>fz r H2 v h e2;clear e1 e2;refine η0 ?_;intro x0 x1;have Rr:=B.r;go_in;go_wp2_with fail;refine Zc (θ4 (Ks (λx=>x=b) w) B L R) ?_;rintro v1 ⟨I',B1,L1,R1⟩;refine(fW b l r i m0 h0 n0 _ B1 L1 R1 bl br s_l.out TI.out).mono ?_;rintro e v2 ⟨rfl,Sa,kx⟩;obtain⟨m2,h2,n2,B2,em,eh,en⟩:∃m2 h2 n2,ah v2 b (ct i l.ptr r.ptr m2 (h2) (n2)) 372/\Hid (m2=PT.lst l i r)/\Hid (h2=1+max l.high r.high)/\Hid (n2=1+l.many+r.many):=⟨_,_,_,Sa,rfl,rfl,rfl⟩;clear Sa;have L2:=L1.ko kx τp;have R2:=R1.ko kx σP;have JE:KO (λx=>x=b) w v2:=I'.trans kx ρc;replace Rr:=B2.r;clear kx;go_wp2_with fail;refine wp_loop_rounds 3 ?_;rw[cU];go_wp2_with fail;refine bK (θ4 JE B2 L2 R2) ?_;clear Rr;rintro v3 ⟨JI,B3,L3,R3⟩ Rr;have q:=ae B3;refine Wq ?_
 repeat (go_big_quiet_step ((first
   | (go_at_call 272;(with_reducible exact an (cL _ (L3.below (ZW _ _ _)))))
   | (go_at_call 272;(with_reducible exact an (cR _ (R3.below (ZW _ _ _))))))))
 refine bB (θ4 B3 L3 R3 JI) ?_;clear Rr;rintro v4 ⟨B4,L4,R4,JJ⟩ Rr;clear q B3 L3 R3;go_wp2_with fail;rw[cU];go_wp2_with fail;refine bK (θ4 JJ B4 L4 R4) ?_;clear Rr;rintro v5 ⟨JP,B5,L5,R5⟩ Rr;have q:=ae B5;refine Wq ?_
 repeat (go_big_quiet_step ((first
   | (go_at_call 272;(with_reducible exact an (cR _ (R5.below (ZW _ _ _)))))
   | (go_at_call 272;(with_reducible exact an (cL _ (L5.below (ZW _ _ _))))))))
 refine bB (θ4 B5 L5 R5 JP) ?_;clear Rr;rintro v6 ⟨B6,L6,R6,JT⟩ Rr;clear q B5 L5 R5;go_wp2_with fail;rw[cU];go_wp2;go_ret;exact⟨rfl,⟨by rw[<- em.out,<- eh.out,<- en.out];exact B6,L6,R6⟩,JT⟩
def PT.bal (b:Nat)(l:PT)(i:ay)(r:PT):PT:=
 if r.high+1<l.high then
  match l with
  | .node c a li d=>
   if a.high<d.high then
    match d with
    | .node k f j g=>.node k (.node c a li f) j (.node b g i r)
    | .nil=>.node b l i r
   else .node c a li (.node b d i r)
  | .nil=>.node b l i r
 else if l.high+1<r.high then
  match r with
  | .node c d li a=>
   if a.high<d.high then
    match d with
    | .node k g j f=>.node k (.node b l i g) j (.node c f li a)
    | .nil=>.node b l i r
   else .node c (.node b l i d) li a
  | .nil=>.node b l i r
 else .node b l i r
theorem PT.bal_bare (b:Nat)(l:PT)(i:ay)(r:PT):(PT.bal b l i r).bare=AT.bal l.bare i r.bare:=by
 unfold PT.bal AT.bal;by_cases h1:r.high+1<l.high
 ·rw[ZP h1,ZP h1];cases l with
  | nil=>rfl
  | node c a li d=>
   show _=(if a.bare.high<d.bare.high then _ else _);by_cases h2:a.high<d.high
   ·simp only[ZP h2];cases d with
    | nil=>rfl
    | node k f j g=>rfl
   ·simp only[ZI h2];rfl
 ·rw[ZI h1,ZI h1];by_cases h3:l.high+1<r.high
  ·rw[ZP h3,ZP h3];cases r with
   | nil=>rfl
   | node c d li a=>
    show _=(if a.bare.high<d.bare.high then _ else _);by_cases h2:a.high<d.high
    ·simp only[ZP h2];cases d with
     | nil=>rfl
     | node k g j f=>rfl
    ·simp only[ZI h2];rfl
  ·rw[ZI h3,ZI h3];rfl
theorem PT.bal_bs (b:Nat)(l:PT)(i:ay)(r:PT)(x:Nat):x ∈ (PT.bal b l i r).bs↔x ∈ (PT.node b l i r).bs:=by
 unfold PT.bal
 repeat' split
 all_goals (simp only[PT.bs,ZC,ZM];try grind)
theorem PT.bal_apart (b:Nat)(l:PT)(i:ay)(r:PT)(h:(PT.node b l i r).Apart):(PT.bal b l i r).Apart:=by
 unfold PT.bal
 repeat' split
 all_goals (try exact h)
 all_goals (simp only[PT.Apart,PT.bs,ZC,ZM,not_or] at h ⊢;grind)
theorem ip (b:Nat)(l r:PT)(i m0:ay)(h0 n0:Int)(w:ϖ)(B:ah w b (ct i l.ptr r.ptr m0 h0 n0) 372)(L:aR w l)(R:aR w r)(ap:(PT.node b l i r).Apart)(sz:1+l.many+r.many<=1099511627776):Calls Ψ 271 #[b] w λe w'=>e=ϰ (PT.bal b l i r).ptr/\aR w' (PT.bal b l i r)/\KO (λx=>x ∈ (PT.node b l i r).bs) w w':=by
 have q1:=AT.high_many l.bare;have q2:=AT.high_many r.bare;have sl:l.many<=1099511627776:=σU;have sr:r.many<=1099511627776:=σU;unfold PT.bal;by_cases h1:r.high+1<l.high
 ·simp only[ZP h1];cases l with
  | nil=>simp only[PT.high,PT.bare,AT.high] at h1 q2;omega
  | node c a li d=>
   by_cases h2:a.high<d.high
   ·simp only[ZP h2];cases d with
    | nil=>have:=(AT.high_many a.bare).1;simp only[PT.high,PT.bare,AT.high] at h2 this;omega
    | node k f j g=>exact Db b c k a f g r i j li m0 h0 n0 w B L R ap sz h1 h2
   ·simp only[ZI h2];exact Da b c a d r i li m0 h0 n0 w B L R ap sz h1 h2
 ·simp only[ZI h1];by_cases h3:l.high+1<r.high
  ·simp only[ZP h3];cases r with
   | nil=>simp only[PT.high,PT.bare,AT.high] at h3 q1;omega
   | node c d li a=>
    have Wm:1+(PT.node c d li a).many+l.many<=1099511627776:=σU;by_cases h2:a.high<d.high
    ·simp only[ZP h2];cases d with
     | nil=>have:=(AT.high_many a.bare).1;simp only[PT.high,PT.bare,AT.high] at h2 this;omega
     | node k g j f=>exact Dd b c k a f g l i j li m0 h0 n0 w B R L ap Wm h3 h2
    ·simp only[ZI h2];exact Dc b c a d l i li m0 h0 n0 w B R L ap Wm h3 h2
  ·simp only[ZI h3];exact(Fc b l r i m0 h0 n0 w B L R ap.1 ap.2.1 sl sr h1 h3).mono λe w' ⟨h,t,k⟩=>⟨h,t,k.mono λx _ q=>by rw[q];simp[PT.bs]⟩
theorem m9 (b:Nat)(i m:ay)(p q:ϗ)(h n:Int)(k:aG)(s:Int)(w:ϖ)(B:ah w b (ct i p q m h n) 372)(hs:(if i.key.lt k then (1:Int) else 0)=s):
  CB 270 #[b,rk k] w (ι ε s):=by
 obtain⟨c,hc,hd⟩:∃c,mS k i.key=c/\((0<c/\s=1)\/(¬0<c/\s=0)):=by
  by_cases h:i.key.lt k
  ·exact⟨1,ou h,.inl ⟨by omega,by rw[<- hs,ZP h]⟩⟩
  ·refine⟨_,rfl,.inr ⟨?_,by rw[<- hs,ZI h]⟩⟩;rcases aG.lt_or k i.key with q|q|q
   ·rw[ox q];omega
   ·rw[lc q];omega
   ·exact az q h
 have Hc:=ag hc;clear hc hs;have Rr:=B.r;rcases hd with ⟨h1,rfl⟩|⟨h1,rfl⟩
 all_goals
  unfold CB;go_in;go_wp2_with fail;refine jf (θ2 (Ks (λ_=>False) w) B) (λv=>ah v w #[k.pos,ι ε k.id] 333) ρB ?_;clear Rr;rintro v1 A1 ⟨I',B1⟩ Rr;have Ss:=A1.r;have qB:=ae B1;have qA:=ae A1;refine Wq ?_
  repeat (go_big_quiet_step ((first
    | (go_at_call 277;(with_reducible exact bZ (iT k i.key c _ Hc.out))))))
  refine bB (θ3 B1 A1 I') ?_;clear Rr Ss;rintro v2 ⟨B2,A2,JE⟩ Rr;clear qB qA B1 A1;go_wp2;go_ret;exact⟨rfl,JE.below (ZR _) ρp⟩
theorem Ff (k u:aG)(KB VB:Nat)(w:ϖ)(Kb:ah w KB #[k.pos,ι ε k.id] 333)(Vb:ah w VB #[u.pos,ι ε u.id] 333):Calls Ψ 253 #[Kp,KB,VB] w λe w'=>e=ϰ w/\aR w' (.node w .nil ⟨k,u⟩ .nil)/\Below w w w':=by
 have Rr:=θ2 Kb.r Vb.r;go_in;go_wp2_with fail;refine pw (θ3 (Ks (λ_=>False) w) Kb Vb) (λv=>ah v w (ct ⟨k,u⟩ Kp Kp ⟨⟨0,0⟩,⟨0,0⟩⟩ 0 0) 372/\w.heap.size<v) ⟨ρB,by simp⟩ ?_;clear Rr;rintro v1 ⟨X1,Z1⟩ ⟨I',N3,Pq⟩ Rr;have Ss:=X1.r;refine(fW w .nil .nil ⟨k,u⟩ ⟨⟨0,0⟩,⟨0,0⟩⟩ 0 0 _ X1 trivial trivial (by simp[PT.bs]) (by simp[PT.bs]) ρf ρf).mono ?_;rintro e v2 ⟨rfl,X2,kx⟩;go_wp2;go_ret;exact⟨rfl,⟨X2,trivial,trivial⟩,I'.size2 kx⟩
theorem AT.many_bal (l:AT)(i:ay)(r:AT):(AT.bal l i r).many=1+l.many+r.many:=by rw[AT.many_items,AT.items_bal];have:=AT.many_items l;have:=AT.many_items r;simp only[ZL,uo];omega
theorem AT.many_ins (t:AT)(x:ay):(t.ins x).many<=1+t.many:=by
 induction t with
 | nil=>simp[AT.ins,AT.many]
 | node l i r hl hr=>
  unfold AT.ins;split
  ·omega
  ·split
   ·rw[AT.many_bal];simp only[AT.many];omega
   ·rw[AT.many_bal];simp only[AT.many];omega
theorem lz (k u:aG)(KB VB N:Nat):∀(t:PT)(w:ϖ),aR w t->t.Apart->(∀x ∈ t.bs,x<N)->N<=KB->N<=VB->ah w KB #[k.pos,ι ε k.id] 333->ah w VB #[u.pos,ι ε u.id] 333->(∀y ∈ t.bare.items,y.key≠k)->t.many<=1073741824->
  Calls Ψ 252 #[t.ptr,rk k,.func (.func 253) #[] #[KB,VB]] w λe w'=>∃t':PT,e=ϰ t'.ptr/\t'.bare=AT.ins t.bare ⟨k,u⟩/\aR w' t'/\t'.Apart/\(∀x ∈ t'.bs,x ∈ t.bs\/w<=x)/\KO (λx=>x ∈ t.bs) w w'
 | .nil,w,_,_,_,_,_,Kb,Vb,_,_=>by show Calls Ψ 252 #[Kp,rk k,.func (.func 253) #[] #[KB,VB]] w λe w'=>∃t':PT,e=ϰ t'.ptr/\t'.bare=AT.ins PT.nil.bare ⟨k,u⟩/\aR w' t'/\t'.Apart/\(∀x ∈ t'.bs,x ∈ PT.nil.bs\/w<=x)/\KO (λx=>x ∈ PT.nil.bs) w w';have Ml:=Kb.cell;have Mm:=Kb.frozen;have Mn:=Kb.size;have MW:=Vb.cell;have MX:=Vb.frozen;have Nk:=Vb.size;go_in;go_wp2_with fail;refine Jw (θ3 (Ks (λ_=>False) w) Kb Vb) (λv=>ah v w #[k.pos,ι ε k.id] 333) ρB ?_;rintro v1 A1 ⟨I',N3,Pq⟩;replace Ml:=N3.cell;replace Mm:=N3.frozen;replace Mn:=N3.size;replace MW:=Pq.cell;replace MX:=Pq.frozen;replace Nk:=Pq.size;replace cA:=A1.cell;replace fA:=A1.frozen;replace zA:=A1.size;have qKb:=ae N3;have qVb:=ae Pq;have qA:=ae A1;refine Wq ?_;refine nZ ?_;refine Zq (θ4 N3 Pq A1 I') ?_;rintro v2 ⟨Oh,PV,A2,JE⟩;replace Ml:=Oh.cell;replace Mm:=Oh.frozen;replace Mn:=Oh.size;replace MW:=PV.cell;replace MX:=PV.frozen;replace Nk:=PV.size;replace cA:=A2.cell;replace fA:=A2.frozen;replace zA:=A2.size;clear qKb qVb qA N3 Pq A1;go_wp2_with fail;refine Zc (θ4 JE Oh PV A2) ?_;rintro v3 ⟨JI,OD,PW,A3⟩;replace Ml:=OD.cell;replace Mm:=OD.frozen;replace Mn:=OD.size;replace MW:=PW.cell;replace MX:=PW.frozen;replace Nk:=PW.size;replace cA:=A3.cell;replace fA:=A3.frozen;replace zA:=A3.size;refine(Ff k u KB VB _ OD PW).mono ?_;rintro e v4 ⟨rfl,X4,kx⟩;go_wp2;go_ret;exact⟨_,rfl,rfl,X4,⟨by simp[PT.bs],by simp[PT.bs],by simp[PT.bs],trivial,trivial⟩,λx hx=>.inr (by simp only[PT.bs,ZC,ZA,List.not_mem_nil,or_false] at hx;subst hx;exact JI.size),(JI.step0 kx).mono (λ_ _ f=>f.elim)⟩
 | .node b l i r,w,T,ap,hN,hK,hV,Kb,Vb,Pg,sz=>by
  show Calls Ψ 252 #[b,rk k,.func (.func 253) #[] #[KB,VB]] w λe w'=>∃t':PT,e=ϰ t'.ptr/\t'.bare=AT.ins (PT.node b l i r).bare ⟨k,u⟩/\aR w' t'/\t'.Apart/\(∀x ∈ t'.bs,x ∈ (PT.node b l i r).bs\/w<=x)/\KO (λx=>x ∈ (PT.node b l i r).bs) w w';have B0:=T.1;have L:=T.2.1;have R:=T.2.2;obtain⟨m0,h0,n0,B⟩:∃m0 h0 n0,ah w b (ct i l.ptr r.ptr m0 (h0) (n0)) 372:=⟨_,_,_,B0⟩;have WW:=ag (show aR w (.node b l i r) from T);clear B0 T;have hi:i.key≠k:=Pg i κc;have e0:=yN i.key k false (ZF hi);have hnl:∀y ∈ l.bare.items,y.key≠k:=λy hy=>Pg y κv;have hnr:∀y ∈ r.bare.items,y.key≠k:=λy hy=>Pg y κv;have q1:=AT.high_many l.bare;have q2:=AT.high_many r.bare;have Wm:1+l.bare.many+r.bare.many<=1073741824:=sz;have s_l:=ag (show l.many<=1073741824 by simp only[PT.many];omega);have TI:=ag (show r.many<=1073741824 by simp only[PT.many];omega);have cl:l.Apart:=ap.2.2.2.1;have cr:r.Apart:=ap.2.2.2.2;have ap0:=ag ap;simp only[PT.Apart] at ap;have MZ:=ag ap;clear ap;simp only[PT.bs,ZC,ZM] at hN;have hNh:=ag hN;have kbb:KB≠b:=by have:=hN b (.inl rfl);omega
  have vbb:VB≠b:=by have:=hN b (.inl rfl);omega
  have hNl:∀x ∈ l.bs,x<N:=λx hx=>hN x (.inr (.inl hx));have hNr:∀x ∈ r.bs,x<N:=λx hx=>hN x (.inr (.inr hx));have S1:=ag Wm;clear hN q1 q2 Pg sz Wm;have HL:=ag (And.intro hnl (And.intro hNl cl));have HR:=ag (And.intro hnr (And.intro hNr cr));clear hnl hNl hnr hNr cl cr;by_cases JM:i.key.lt k
  ·have hs:=ag (show (if i.key.lt k then (1:Int) else 0)=1 from ZP JM);have PG:=ag JM;have pz:=ag hi;clear JM hi;have cB:=B.cell;have fB:=B.frozen;have zB:=B.size;have Ml:=Kb.cell;have Mm:=Kb.frozen;have Mn:=Kb.size;have MW:=Vb.cell;have MX:=Vb.frozen;have Nk:=Vb.size;go_in;go_wp2_with fail;refine δm ?_;clear cB fB zB Ml Mm Mn MW MX Nk;intro v1 I' v2 B2 L2 R2 Oh PV A2 JE cB fB zB Ml Mm Mn MW MX Nk cA fA zA;go_wp2_with fail;refine Zc (θ7 JE B2 L2 R2 Oh PV A2) ?_;rintro v3 ⟨JI,B3,L3,R3,OD,PW,A3⟩;replace cB:=B3.cell;replace fB:=B3.frozen;replace zB:=B3.size;replace Ml:=OD.cell;replace Mm:=OD.frozen;replace Mn:=OD.size;replace MW:=PW.cell;replace MX:=PW.frozen;replace Nk:=PW.size;replace cA:=A3.cell;replace fA:=A3.frozen;replace zA:=A3.size;refine(m9 b i m0 (PT.ptr l) (PT.ptr r) h0 n0 k 1 _ B3 hs.out).mono ?_;rintro e v4 ⟨rfl,kx⟩;obtain⟨B4,L4,R4,O8,Rw,A4,JJ⟩:=Mw kx (θ7 B3 L3 R3 OD PW A3 JI);replace cB:=B4.cell;replace fB:=B4.frozen;replace zB:=B4.size;replace Ml:=O8.cell;replace Mm:=O8.frozen;replace Mn:=O8.size;replace MW:=Rw.cell;replace MX:=Rw.frozen;replace Nk:=Rw.size;replace cA:=A4.cell;replace fA:=A4.frozen;replace zA:=A4.size;clear kx;go_wp2_with fail;refine Zw (θ7 JJ B4 L4 R4 O8 Rw A4) ?_;rintro v5 ⟨JP,B5,L5,R5,Rl,UI,A5⟩;replace cB:=B5.cell;replace fB:=B5.frozen;replace zB:=B5.size;replace Ml:=Rl.cell;replace Mm:=Rl.frozen;replace Mn:=Rl.size;replace MW:=UI.cell;replace MX:=UI.frozen;replace Nk:=UI.size;replace cA:=A5.cell;replace fA:=A5.frozen;replace zA:=A5.size;go_region_with (first|(go_at_call 252;refine au v5 (λv=>Below v5 v5 v) (λv=>KO (λx=>x ∈ (PT.node b l i r).bs) w v/\ah v (b) (ct i l.ptr r.ptr m0 (h0) (n0)) 372/\aR v l/\aR v r/\ah v (KB) #[k.pos,ι ε k.id] 333/\ah v (VB) #[u.pos,ι ε u.id] 333/\ah v w #[k.pos,ι ε k.id] 333) ρE (λkx=>⟨JP.step0 kx,ρB,L5.below kx,R5.below kx,ρB,ρB,ρB⟩) ?_;rintro v6 ⟨JT,B6,L6,R6,UA,UJ,A6⟩;(replace cB:=B6.cell;replace fB:=B6.frozen;replace zB:=B6.size);(replace Ml:=UA.cell;replace Mm:=UA.frozen;replace Mn:=UA.size);(replace MW:=UJ.cell;replace MX:=UJ.frozen;replace Nk:=UJ.size);(replace cA:=A6.cell;replace fA:=A6.frozen;replace zA:=A6.size);refine(lz k u KB VB N r _ R6 HR.out.2.2 HR.out.2.1 hK hV UA UJ HR.out.1 TI.out).mono ?_;rintro e v7 ⟨t',rfl,tb,T7,ta,tn,kx⟩;(have B7:=B6.ko kx σb);(have L7:=L6.ko kx ρ5);(have Y':=UA.ko kx σb);(have Zt:=UJ.ko kx σb);(have J7:KO (λx=>x ∈ (PT.node b l i r).bs) w v7:=JT.trans kx ρO);(replace cB:=B7.cell;replace fB:=B7.frozen;replace zB:=B7.size);(replace Ml:=Y'.cell;replace Mm:=Y'.frozen;replace Mn:=Y'.size);(replace MW:=Zt.cell;replace MX:=Zt.frozen;replace Nk:=Zt.size);clear kx cA fA zA))
   all_goals
    have bt:b ∉ t'.bs:=λq=>by have ap:=MZ.out;have z1:=B7.size;have z2:=JT.size;have z3:=aR.lt (w:=w) (t:=.node b l i r) WW.out b (by simp[PT.bs]);rcases tn b q with q|q;exact az q (by grind);omega
    go_wp2_with fail;refine Au v7 (λx=>x=b) (λv=>ah v (b) (ct i l.ptr t'.ptr m0 (h0) (n0)) 372/\ah v (KB) #[k.pos,ι ε k.id] 333/\ah v (VB) #[u.pos,ι ε u.id] 333) ⟨ρB,ρB,ρB⟩ (λ_ kx=>θ3 (J7.trans kx ρO) (L7.ko kx ρ5) (T7.ko kx τ3)) ?_;rintro v8 ⟨B8,Za,Zu⟩ ⟨Ka,L8,T8⟩;replace cB:=B8.cell;replace fB:=B8.frozen;replace zB:=B8.size;replace Ml:=Za.cell;replace Mm:=Za.frozen;replace Mn:=Za.size;replace MW:=Zu.cell;replace MX:=Zu.frozen;replace Nk:=Zu.size;have zn:∀x ∈ t'.bs,x ∈ r.bs\/w<=x:=λx hx=>(tn x hx).imp id (λq=>ZK JT.size q);have zo:∀x ∈ (PT.node b l i r).bs,x<w:=aR.lt (w:=w) (t:=.node b l i r) WW.out;have aa:(PT.node b l i t').Apart:=τ8;have e1:(PT.bal b l i t').bare=AT.ins (PT.node b l i r).bare ⟨k,u⟩:=by rw[PT.bal_bare,tb];simp only[PT.bare,AT.ins];rw[ZI pz.out,ZP PG.out]
    have e2:t'.many<=1+r.many:=by simp only[PT.many];rw[tb];exact AT.many_ins _ _
    have S2:1+PT.many l+PT.many t'<=1099511627776:=σX;refine(ip b l t' i m0 h0 n0 _ B8 L8 T8 aa S2).mono ?_;rintro e v9 ⟨rfl,T9,kx⟩;go_wp2;go_ret;refine⟨_,rfl,e1,T9,PT.bal_apart _ _ _ _ aa,λx hx=>?_,KO.of_sub Ka kx ?_⟩
    ·exact ξ2
    ·exact ηb
  ·have hs:=ag (show (if i.key.lt k then (1:Int) else 0)=0 from ZI JM);have PG:=ag JM;have pz:=ag hi;clear JM hi;have cB:=B.cell;have fB:=B.frozen;have zB:=B.size;have Ml:=Kb.cell;have Mm:=Kb.frozen;have Mn:=Kb.size;have MW:=Vb.cell;have MX:=Vb.frozen;have Nk:=Vb.size;go_in;go_wp2_with fail;refine δm ?_;clear cB fB zB Ml Mm Mn MW MX Nk;intro v1 I' v2 B2 L2 R2 Oh PV A2 JE cB fB zB Ml Mm Mn MW MX Nk cA fA zA;go_wp2_with fail;refine Zc (θ7 JE B2 L2 R2 Oh PV A2) ?_;rintro v3 ⟨JI,B3,L3,R3,OD,PW,A3⟩;replace cB:=B3.cell;replace fB:=B3.frozen;replace zB:=B3.size;replace Ml:=OD.cell;replace Mm:=OD.frozen;replace Mn:=OD.size;replace MW:=PW.cell;replace MX:=PW.frozen;replace Nk:=PW.size;replace cA:=A3.cell;replace fA:=A3.frozen;replace zA:=A3.size;refine(m9 b i m0 (PT.ptr l) (PT.ptr r) h0 n0 k 0 _ B3 hs.out).mono ?_;rintro e v4 ⟨rfl,kx⟩;obtain⟨B4,L4,R4,O8,Rw,A4,JJ⟩:=Mw kx (θ7 B3 L3 R3 OD PW A3 JI);replace cB:=B4.cell;replace fB:=B4.frozen;replace zB:=B4.size;replace Ml:=O8.cell;replace Mm:=O8.frozen;replace Mn:=O8.size;replace MW:=Rw.cell;replace MX:=Rw.frozen;replace Nk:=Rw.size;replace cA:=A4.cell;replace fA:=A4.frozen;replace zA:=A4.size;clear kx;go_wp2_with fail;refine Zw (θ7 JJ B4 L4 R4 O8 Rw A4) ?_;rintro v5 ⟨JP,B5,L5,R5,Rl,UI,A5⟩;replace cB:=B5.cell;replace fB:=B5.frozen;replace zB:=B5.size;replace Ml:=Rl.cell;replace Mm:=Rl.frozen;replace Mn:=Rl.size;replace MW:=UI.cell;replace MX:=UI.frozen;replace Nk:=UI.size;replace cA:=A5.cell;replace fA:=A5.frozen;replace zA:=A5.size;go_region_with (first|(go_at_call 252;refine au v5 (λv=>Below v5 v5 v) (λv=>KO (λx=>x ∈ (PT.node b l i r).bs) w v/\ah v (b) (ct i l.ptr r.ptr m0 (h0) (n0)) 372/\aR v l/\aR v r/\ah v (KB) #[k.pos,ι ε k.id] 333/\ah v (VB) #[u.pos,ι ε u.id] 333/\ah v w #[k.pos,ι ε k.id] 333) ρE (λkx=>⟨JP.step0 kx,ρB,L5.below kx,R5.below kx,ρB,ρB,ρB⟩) ?_;rintro v6 ⟨JT,B6,L6,R6,UA,UJ,A6⟩;(replace cB:=B6.cell;replace fB:=B6.frozen;replace zB:=B6.size);(replace Ml:=UA.cell;replace Mm:=UA.frozen;replace Mn:=UA.size);(replace MW:=UJ.cell;replace MX:=UJ.frozen;replace Nk:=UJ.size);(replace cA:=A6.cell;replace fA:=A6.frozen;replace zA:=A6.size);refine(lz k u KB VB N l _ L6 HL.out.2.2 HL.out.2.1 hK hV UA UJ HL.out.1 s_l.out).mono ?_;rintro e v7 ⟨t',rfl,tb,T7,ta,tn,kx⟩;(have B7:=B6.ko kx σb);(have R7:=R6.ko kx ρ5);(have Y':=UA.ko kx σb);(have Zt:=UJ.ko kx σb);(have J7:KO (λx=>x ∈ (PT.node b l i r).bs) w v7:=JT.trans kx ρO);(replace cB:=B7.cell;replace fB:=B7.frozen;replace zB:=B7.size);(replace Ml:=Y'.cell;replace Mm:=Y'.frozen;replace Mn:=Y'.size);(replace MW:=Zt.cell;replace MX:=Zt.frozen;replace Nk:=Zt.size);clear kx cA fA zA))
   all_goals
    have bt:b ∉ t'.bs:=λq=>by have ap:=MZ.out;have z1:=B7.size;have z2:=JT.size;have z3:=aR.lt (w:=w) (t:=.node b l i r) WW.out b (by simp[PT.bs]);rcases tn b q with q|q;exact az q (by grind);omega
    go_wp2_with fail;refine Au v7 (λx=>x=b) (λv=>ah v (b) (ct i t'.ptr r.ptr m0 (h0) (n0)) 372/\ah v (KB) #[k.pos,ι ε k.id] 333/\ah v (VB) #[u.pos,ι ε u.id] 333) ⟨ρB,ρB,ρB⟩ (λ_ kx=>θ3 (J7.trans kx ρO) (R7.ko kx ρ5) (T7.ko kx τ3)) ?_;rintro v8 ⟨B8,Za,Zu⟩ ⟨Ka,R8,T8⟩;replace cB:=B8.cell;replace fB:=B8.frozen;replace zB:=B8.size;replace Ml:=Za.cell;replace Mm:=Za.frozen;replace Mn:=Za.size;replace MW:=Zu.cell;replace MX:=Zu.frozen;replace Nk:=Zu.size;have zn:∀x ∈ t'.bs,x ∈ l.bs\/w<=x:=λx hx=>(tn x hx).imp id (λq=>ZK JT.size q);have zo:∀x ∈ (PT.node b l i r).bs,x<w:=aR.lt (w:=w) (t:=.node b l i r) WW.out;have aa:(PT.node b t' i r).Apart:=τ8;have e1:(PT.bal b t' i r).bare=AT.ins (PT.node b l i r).bare ⟨k,u⟩:=by rw[PT.bal_bare,tb];simp only[PT.bare,AT.ins];rw[ZI pz.out,ZI PG.out]
    have e2:t'.many<=1+l.many:=by simp only[PT.many];rw[tb];exact AT.many_ins _ _
    have S2:1+PT.many t'+PT.many r<=1099511627776:=σX;refine(ip b t' r i m0 h0 n0 _ B8 T8 R8 aa S2).mono ?_;rintro e v9 ⟨rfl,T9,kx⟩;go_wp2;go_ret;refine⟨_,rfl,e1,T9,PT.bal_apart _ _ _ _ aa,λx hx=>?_,KO.of_sub Ka kx ?_⟩
    ·exact ξ2
    ·exact ηb
theorem yP (a b:aG)(c:Bool)(hc:decide (a=b)=!c)(v:ϖ):(binOp .neq 333 (rk a) (rk b)).run Ψ v=.ok (β c) v:=by rw[run_neq_struct];have:=yO 9998 a b v;rw[show (Op.equalIn 10000 333 (rk a) (rk b)).run Ψ v=.ok (decide (a=b)) v from this,hc];simp[Result.andThen]
def PT.sz:PT->Nat
 | .nil=>0
 | .node _ l _ r=>1+l.sz+r.sz
theorem PT.adr_nil:PT.adr .nil=none:=rfl
theorem PT.adr_node (b:Nat)(l:PT)(i:ay)(r:PT):PT.adr (.node b l i r)=some ⟨b,0,none⟩:=rfl
theorem xh (T:Nat)(t:PT)(k:aG)(w:ϖ)(T_:ah w T #[t.ptr] 263)(R_:aR w t)(o:AT.Ord t.bare)(h:∀y ∈ t.bare.items,y.key≠k):Calls Ψ 251 #[T,rk k] w λe w'=>(e=ϰ Kp)/\Below w w w':=by
 have T0:=T_;have R:=R_;clear T_ R_;have T':=T0;have HO:=ag o;have HH:=ag h;clear o h;have Rr:=T0.r;go_in;go_wp2_with fail;refine Jw (θ2 (Ks (λ_=>False) w) R) (λv=>ah v w #[k.pos,ι ε k.id] 333) ρB ?_;rintro v1 A1 ⟨I',R1⟩;replace Rr:=A1.r;go_loopg [5] t.sz (λg x wr=>∃s:PT,x=s.ptr/\s.sz=g/\aR wr s/\ah wr w #[k.pos,ι ε k.id] 333/\KO (λ_=>False) w wr/\Hid (AT.Ord s.bare)/\Hid (∀y ∈ s.bare.items,y.key≠k));case atStart=>exact⟨t,rfl,rfl,R1,A1,I',HO,HH⟩
 case round=>
  obtain⟨s,rfl,hg,S,A,k0,hO,hH⟩:=hrel;clear R1 A1 I' HO HH R T0 T';have Ss:=A.r;have Yq:=ag hg;clear hg;cases s with
  | nil=>simp only[PT.ptr,PT.adr_nil];go_wp2_with fail;refine bK (θ2 (Ks (λ_=>False) wr) A) ?_;clear Rr Ss;rintro v1 ⟨I',A1⟩ Rr;have q:=ae A1;refine Wq ?_;refine nZ ?_;refine bB (θ2 A1 I') ?_;clear Rr;rintro v2 ⟨A2,JE⟩ Rr;clear q A1;go_wp2;go_ret;exact⟨rfl,(k0.trans JE (λ_ _ f=>f)).below (ZR _) (λ_ _ f=>f)⟩
  | node b l i r=>
   simp only[PT.ptr,PT.adr_node];have B0:=S.1;have L:=S.2.1;have R:=S.2.2;obtain⟨m0,h0,n0,B⟩:∃m0 h0 n0,ah wr b (ct i l.ptr r.ptr m0 (h0) (n0)) 372:=⟨_,_,_,B0⟩;clear B0 S;replace Ss:=B.r;obtain⟨o1,o2,o3,o4⟩:=AT.ord_node.1 hO.out;have hi:i.key≠k:=hH.out i κc;have e0:=yP i.key k true τk;by_cases JM:i.key.lt k
   ·have hx:∀y ∈ r.bare.items,y.key≠k:=λy hy=>hH.out y κv;exact ξi
   ·have hx:∀y ∈ l.bare.items,y.key≠k:=λy hy=>hH.out y κv;exact ξj
theorem vl (T:Nat)(t:PT)(k:aG)(w:ϖ)(T_:ah w T #[t.ptr] 263)(R_:aR w t)(o:AT.Ord t.bare)(h:∃y ∈ t.bare.items,y.key=k):Calls Ψ 251 #[T,rk k] w λe w'=>(∃a,e=ϰ (ψ (some a)))/\Below w w w':=by
 have T0:=T_;have R:=R_;clear T_ R_;have T':=T0;have HO:=ag o;have HH:=ag h;clear o h;have Rr:=T0.r;go_in;go_wp2_with fail;refine Jw (θ2 (Ks (λ_=>False) w) R) (λv=>ah v w #[k.pos,ι ε k.id] 333) ρB ?_;rintro v1 A1 ⟨I',R1⟩;replace Rr:=A1.r;go_loopg [5] t.sz (λg x wr=>∃s:PT,x=s.ptr/\s.sz=g/\aR wr s/\ah wr w #[k.pos,ι ε k.id] 333/\KO (λ_=>False) w wr/\Hid (AT.Ord s.bare)/\Hid (∃y ∈ s.bare.items,y.key=k));case atStart=>exact⟨t,rfl,rfl,R1,A1,I',HO,HH⟩
 case round=>
  obtain⟨s,rfl,hg,S,A,k0,hO,hH⟩:=hrel;clear R1 A1 I' HO HH R T0 T';have Ss:=A.r;have Yq:=ag hg;clear hg;cases s with
  | nil=>obtain⟨y,hy,_⟩:=hH.out;exact az hy κc
  | node b l i r=>
   simp only[PT.ptr,PT.adr_node];have B0:=S.1;have L:=S.2.1;have R:=S.2.2;obtain⟨m0,h0,n0,B⟩:∃m0 h0 n0,ah wr b (ct i l.ptr r.ptr m0 (h0) (n0)) 372:=⟨_,_,_,B0⟩;clear B0 S;replace Ss:=B.r;obtain⟨o1,o2,o3,o4⟩:=AT.ord_node.1 hO.out;by_cases hi:i.key=k
   ·have e0:=yP i.key k false τk;have hi':=ag hi;have H1:=ag (And.intro o1 (And.intro o2 (And.intro o3 o4)));clear hi o1 o2 o3 o4;go_wp2_with fail;refine bK (θ3 (Ks (λ_=>False) wr) A B) ?_;clear Rr Ss;rintro v1 ⟨I',A1,B1⟩ Rr;have q:=θ2 (ae A1) (ae B1);refine Wq ?_;refine nZ ?_;refine bB (θ3 A1 B1 I') ?_;clear Rr;rintro v2 ⟨A2,B2,JE⟩ Rr;clear q A1 B1;go_wp2;go_ret;exact⟨⟨_,rfl⟩,(k0.trans JE (λ_ _ f=>f)).below (ZR _) (λ_ _ f=>f)⟩
   ·have e0:=yP i.key k true τk;by_cases JM:i.key.lt k
    ·have hx:∃y ∈ r.bare.items,y.key=k:=by
       obtain⟨y,hy,hk⟩:=hH.out;exact ξ5
     exact ξi
    ·have hx:∃y ∈ l.bare.items,y.key=k:=by
       obtain⟨y,hy,hk⟩:=hH.out;exact ηg
     exact ξj
def bh (w:ϖ)(T:Nat)(t:PT):Prop:=ah w T #[t.ptr] 263/\aR w t/\t.Apart/\T ∉ t.bs
theorem n8 (T:Nat)(t:PT)(x:ay)(w:ϖ)(H:bh w T t)(o:AT.Ord t.bare)(hn:∀y ∈ t.bare.items,y.key≠x.key)(hz:t.many<=1073741824):Calls Ψ 209 #[T,rk x.key,rk x.val] w λe w'=>e=ϰ Kz/\∃t',bh w' T t'/\t'.bare=t.bare.ins x/\(∀b ∈ t'.bs,b ∈ t.bs\/w<=b)/\KO (λb=>b=T\/b ∈ t.bs) w w':=by
 obtain⟨T',R,ha,hT⟩:=H;have HO:=ag o;have HN:=ag hn;have sz:=ag hz;clear o hn hz;have JM:=R.lt;have SU:=T'.cell;have Td:=T'.frozen;have RZ:=T'.size;go_in;go_wp2_with fail;refine Jc (θ3 (Ks (λb=>b=T\/b ∈ t.bs) w) T' R) (λv=>ah v w #[x.key.pos,ι ε x.key.id] 333/\ah v (w+1) #[x.val.pos,ι ε x.val.id] 333) ⟨ρB,ρB⟩ ?_;rintro v1 ⟨N3,Pq⟩ ⟨I',Lu,R1⟩;replace SU:=Lu.cell;replace Td:=Lu.frozen;replace RZ:=Lu.size;replace Ml:=N3.cell;replace Mm:=N3.frozen;replace Mn:=N3.size;replace MW:=Pq.cell;replace MX:=Pq.frozen;replace Nk:=Pq.size;refine(xh T t x.key _ Lu R1 HO.out HN.out).mono ?_;rintro e v2 ⟨rfl,kx⟩;obtain⟨Mk,R2,Oh,PV,JE⟩:=Mw kx (θ5 Lu R1 N3 Pq I');replace SU:=Mk.cell;replace Td:=Mk.frozen;replace RZ:=Mk.size;replace Ml:=Oh.cell;replace Mm:=Oh.frozen;replace Mn:=Oh.size;replace MW:=PV.cell;replace MX:=PV.frozen;replace Nk:=PV.size;clear kx;go_wp2_with fail;refine Zw (θ5 JE Mk R2 Oh PV) ?_;rintro v3 ⟨JI,LG,R3,OD,PW⟩;replace SU:=LG.cell;replace Td:=LG.frozen;replace RZ:=LG.size;replace Ml:=OD.cell;replace Mm:=OD.frozen;replace Mn:=OD.size;replace MW:=PW.cell;replace MX:=PW.frozen;replace Nk:=PW.size;go_region_with (first|(go_at_call 252;refine au v3 (λv=>Below v3 v3 v) (λv=>KO (λb=>b=T\/b ∈ t.bs) w v/\ah v (T) #[t.ptr] 263/\aR v t/\ah v w #[x.key.pos,ι ε x.key.id] 333/\ah v (w+1) #[x.val.pos,ι ε x.val.id] 333) ρE (λkx=>⟨JI.step0 kx,ρB,R3.below kx,ρB,ρB⟩) ?_;rintro v4 ⟨JJ,Lv,R4,O8,Rw⟩;(replace SU:=Lv.cell;replace Td:=Lv.frozen;replace RZ:=Lv.size);(replace Ml:=O8.cell;replace Mm:=O8.frozen;replace Mn:=O8.size);(replace MW:=Rw.cell;replace MX:=Rw.frozen;replace Nk:=Rw.size);refine(lz x.key x.val w (w+1) w t _ R4 ha JM (ZR _) (Nat.le_succ _) O8 Rw HN.out sz.out).mono ?_;rintro e v5 ⟨t',rfl,tb,Q5,ta,tn,kx⟩;(have OE:=Lv.ko kx σk);(have Rl:=O8.ko kx σk);(have UI:=Rw.ko kx σk);(have JP:KO (λb=>b=T\/b ∈ t.bs) w v5:=JJ.trans kx ρc);(replace SU:=OE.cell;replace Td:=OE.frozen;replace RZ:=OE.size);(replace Ml:=Rl.cell;replace Mm:=Rl.frozen;replace Mn:=Rl.size);(replace MW:=UI.cell;replace MX:=UI.frozen;replace Nk:=UI.size);clear kx))
 all_goals
  have zt:=Lv.size;have zs:=JJ.size;have Uc:T ∉ t'.bs:=λq=>by rcases tn T q with q|q;exact hT q;omega
  go_wp2_with fail;refine eD v5 (λx=>x=T) (λv=>ah v (T) #[t'.ptr] 263) ρB κu ?_;rintro v6 Pa ⟨JT,Q6⟩;replace SU:=Pa.cell;replace Td:=Pa.frozen;replace RZ:=Pa.size;go_ret;exact⟨rfl,t',⟨Pa,Q6,ta,Uc⟩,tb,λb hb=>(tn b hb).imp id (λq=>ZK JJ.size q),JT⟩
theorem AT.many_del (t:AT)(k:aG)(o:AT.Ord t)(h:∃y ∈ t.items,y.key=k):(t.del k).many<=t.many:=by rw[AT.many_items,AT.many_items,AT.del_items t k o h];have:=ZH (λy:ay=>decide (y.key≠k)) t.items;omega
def kU (t:PT):Prop:=∀(k:aG)(w:ϖ),aR w t->t.Apart->AT.Ord t.bare->(∃y ∈ t.bare.items,y.key=k)->t.many<=1073741824->
  Calls Ψ 252 #[t.ptr,rk k,.func (.func 269) #[] #[]] w λe w'=>∃t':PT,e=ϰ t'.ptr/\t'.bare=t.bare.del k/\aR w' t'/\t'.Apart/\(∀x ∈ t'.bs,x ∈ t.bs)/\KO (λx=>x ∈ t.bs) w w'
theorem vo (b:Nat)(l:PT)(i m0:ay)(h0 n0:Int)(w:ϖ)(B:ah w b (ct i l.ptr Kp m0 (h0) (n0)) 372):Calls Ψ 269 #[b] w λe w'=>e=ϰ l.ptr/\w=w':=by
 have Rr:=B.r;go_in;go_wp2;go_ret;exact⟨rfl,rfl⟩
theorem vq (b rb:Nat)(l rl rr:PT)(i ri m0:ay)(h0 n0:Int)(w:ϖ)(B:ah w b (ct i l.ptr rb m0 (h0) (n0)) 372)(L:aR w l)(R:aR w (PT.node rb rl ri rr))(ap:(PT.node b l i (PT.node rb rl ri rr)).Apart)(o:AT.Ord (PT.node rb rl ri rr).bare)(sz:1+l.many+(PT.node rb rl ri rr).many<=1073741824)(ih:kU (PT.node rb rl ri rr)):Calls Ψ 269 #[b] w λe w'=>∃t':PT,e=ϰ t'.ptr/\t'.bare=AT.bal l.bare (rl.bare.first ri) (AT.del (PT.node rb rl ri rr).bare (rl.bare.first ri).key)/\aR w' t'/\t'.Apart/\(∀x ∈ t'.bs,x ∈ (PT.node b l i (PT.node rb rl ri rr)).bs)/\KO (λx=>x ∈ (PT.node b l i (PT.node rb rl ri rr)).bs) w w':=by
 obtain⟨f,ef⟩:=Nq (rl.bare.first ri);rw[ef];have q1:=AT.high_many l.bare;have q2:=AT.high_many rl.bare;have q3:=AT.high_many rr.bare;have Has:∃y ∈ (PT.node rb rl ri rr).bare.items,y.key=f.key:=by obtain⟨z,hz⟩:=AT.first_node rl.bare ri rr.bare;exact⟨f,by show f ∈ (AT.node rl.bare ri rr.bare).items;rw[hz,ef];simp,rfl⟩
 have HH:=ag Has;have HO:=ag o;have SZ:=ag sz;have sr:=ag (show (PT.node rb rl ri rr).many<=1073741824 by simp only[PT.many,PT.bare,AT.many] at*;omega);have IH:=ag (show ∀w,aR w (PT.node rb rl ri rr)->Calls Ψ 252 #[rb,rk f.key,.func (.func 269) #[] #[]] w λe w'=>∃t':PT,e=ϰ t'.ptr/\t'.bare=(PT.node rb rl ri rr).bare.del f.key/\aR w' t'/\t'.Apart/\(∀x ∈ t'.bs,x ∈ (PT.node rb rl ri rr).bs)/\KO (λx=>x ∈ (PT.node rb rl ri rr).bs) w w' from λw R=>ih f.key w R ap.2.2.2.2 o Has sr.out);have ap0:=ap;simp only[PT.Apart,PT.bs,ZC,ZM,not_or] at ap;have MZ:=ag ap;have EF:=ag ef;clear Has o ih sz ap ap0 q1 q2 q3 ef;have cB:=B.cell;have fB:=B.frozen;have zB:=B.size;go_in;go_wp2_with fail;refine Zw (θ4 (Ks (λx=>x ∈ (PT.node b l i (PT.node rb rl ri rr)).bs) w) B L R) ?_;rintro v1 ⟨I',B1,L1,R1⟩;replace cB:=B1.cell;replace fB:=B1.frozen;replace zB:=B1.size;go_loopg [3] (PT.node rb rl ri rr).sz (λg x wr=>∃(c:Nat) (a d:PT) (j:ay),x=c/\(PT.node c a j d).sz=g/\aR wr (.node c a j d)/\Hid (a.bare.first j=f)/\(∀x ∈ (PT.node c a j d).bs,x ∈ (PT.node rb rl ri rr).bs)/\wr=v1);case atStart=>exact⟨rb,rl,rr,ri,rfl,rfl,R1,EF,λx hx=>hx,rfl⟩
 case round=>
  obtain⟨c,a,d,j,rfl,hg,S,hf,Nz,rfl⟩:=hrel;have Yq:=ag hg;clear hg;have C0:=S.1;have A:=S.2.1;have C0':=C0;cases a with
  | nil=>
   obtain⟨m1,h1,n1,C⟩:∃m1 h1 n1,ah wr c (ct j Kp d.ptr m1 (h1) (n1)) 372:=⟨_,_,_,C0⟩;have hcr:c ∈ PT.bs (PT.node rb rl ri rr):=Nz c (by simp[PT.bs]);obtain rfl:j=f:=hf.out;have cb:c≠b:=by rintro rfl;have ap:=MZ.out;simp only[PT.bs,ZC,ZM] at hcr;grind
   clear C0 C0' S A hf Nz EF;have cC:=C.cell;have fC:=C.frozen;have zC:=C.size;have C1:=C;clear C;go_wp2_with fail;refine ii wr (λx=>x=b) (λv=>ah v (b) (ct j l.ptr rb m0 (h0) (n0)) 372/\ah v (c) (ct j Kp d.ptr m1 (h1) (n1)) 372) ⟨ρB,ρB⟩ (λ_ kx=>θ3 (I'.trans kx σj) (L1.ko kx ρU) (R1.ko kx ρU)) ?_;rintro v2 ⟨B2,C2⟩ ⟨JE,L2,R2⟩;replace cB:=B2.cell;replace fB:=B2.frozen;replace zB:=B2.size;replace cC:=C2.cell;replace fC:=C2.frozen;replace zC:=C2.size;go_region_with (first|(go_at_call 252;refine au v2 (λv=>Below v2 v2 v) (λv=>KO (λx=>x ∈ (PT.node b l i (PT.node rb rl ri rr)).bs) w v/\ah v (b) (ct j l.ptr rb m0 (h0) (n0)) 372/\aR v l/\aR v (PT.node rb rl ri rr)/\ah v (c) (ct j Kp d.ptr m1 (h1) (n1)) 372) ρE (λkx=>⟨JE.step0 kx,ρB,L2.below kx,R2.below kx,ρB⟩) ?_;rintro v3 ⟨JI,B3,L3,R3,C3⟩;(replace cB:=B3.cell;replace fB:=B3.frozen;replace zB:=B3.size);(replace cC:=C3.cell;replace fC:=C3.frozen;replace zC:=C3.size);refine(IH.out _ R3).mono ?_;rintro e v4 ⟨t',rfl,tb,Q4,ta,tn,kx⟩;(have B4:=B3.ko kx (by intro h;have ap:=MZ.out;(try simp only[PT.bs,ZC,ZM] at h);(try dsimp only at h);grind));(have L4:=L3.ko kx ρU);(have JJ:KO (λx=>x ∈ (PT.node b l i (PT.node rb rl ri rr)).bs) w v4:=JI.trans kx σj);(replace cB:=B4.cell;replace fB:=B4.frozen;replace zB:=B4.size);clear kx cC fC zC))
   all_goals
    have f':b ∉ t'.bs:=λq=>by have ap:=MZ.out;have:=tn b q;simp only[PT.bs,ZC,ZM] at this;grind
    go_wp2_with fail;refine Au v4 (λx=>x=b) (λv=>ah v (b) (ct j l.ptr t'.ptr m0 (h0) (n0)) 372) ρB (λ_ kx=>θ3 (JJ.trans kx σj) (L4.ko kx ρU) (Q4.ko kx (by intro x hx h;exact f' (h ▸ hx)))) ?_;rintro v5 B5 ⟨JP,L5,Q5⟩;replace cB:=B5.cell;replace fB:=B5.frozen;replace zB:=B5.size;have aa:(PT.node b l j t').Apart:=by have ap:=MZ.out;simp only[PT.bs,ZC,ZM] at tn;simp only[PT.Apart];grind
    have e2:t'.many<=(PT.node rb rl ri rr).many:=by simp only[PT.many];rw[tb];exact AT.many_del _ _ HO.out HH.out
    have S2:1+PT.many l+PT.many t'<=1099511627776:=by have:=SZ.out;omega
    refine(ip b l t' j m0 h0 n0 _ B5 L5 Q5 aa S2).mono ?_;rintro e v6 ⟨rfl,T6,kx⟩;go_wp2;go_ret;refine⟨_,rfl,by rw[PT.bal_bare,tb],T6,PT.bal_apart _ _ _ _ aa,λx hx=>?_,KO.of_sub JP kx ?_⟩
    ·rw[PT.bal_bs] at hx;simp only[PT.bs,ZC,ZM] at hx tn ⊢;grind
    ·intro x hx h;simp only[PT.bs,ZC,ZM] at h tn ⊢;grind
  | node c2 a2 j2 d2=>
   obtain⟨m1,h1,n1,C⟩:∃m1 h1 n1,ah wr c (ct j c2 d.ptr m1 (h1) (n1)) 372:=⟨_,_,_,C0⟩;obtain⟨m2,h2,n2,D⟩:∃m2 h2 n2,ah wr c2 (ct j2 a2.ptr d2.ptr m2 (h2) (n2)) 372:=⟨_,_,_,A.1⟩;have cC:=C.cell;have fC:=C.frozen;have zC:=C.size;have H2:=ag (And.intro A (And.intro hf Nz));clear C0 C0' S A hf Nz;go_wp2_with fail;go_roundg (PT.node c2 a2 j2 d2).sz;case measure=>exact ξG
   case rel=>exact⟨c2,a2,d2,j2,rfl,rfl,H2.out.1,ag H2.out.2.1.out,λx hx=>H2.out.2.2 x (by simp only[PT.bs,ZC,ZM] at hx ⊢;grind),rfl⟩
theorem xg:∀(n:Nat)(t:PT),t.sz<=n->kU t:=by
 intro n
 induction n with
 | zero=>
  intro t hz;cases t with
  | nil=>intro k w _ _ _ h _;obtain⟨y,hy,_⟩:=h;exact az hy κc
  | node b l i r=>simp only[PT.sz] at hz;omega
 | succ n ih=>
 intro t hz k w T ap o h sz;cases t with
 | nil=>obtain⟨y,hy,_⟩:=h;exact az hy κc
 | node b l i r=>
 simp only[PT.sz] at hz;have ihl:kU l:=ih l ρa;have ihr:kU r:=ih r ρa;clear ih hz;show Calls Ψ 252 #[b,rk k,.func (.func 269) #[] #[]] w λe w'=>∃t':PT,e=ϰ t'.ptr/\t'.bare=(PT.node b l i r).bare.del k/\aR w' t'/\t'.Apart/\(∀x ∈ t'.bs,x ∈ (PT.node b l i r).bs)/\KO (λx=>x ∈ (PT.node b l i r).bs) w w';have WW:=ag T;have B0:=T.1;have L:=T.2.1;have R:=T.2.2;obtain⟨m0,h0,n0,B⟩:∃m0 h0 n0,ah w b (ct i l.ptr r.ptr m0 (h0) (n0)) 372:=⟨_,_,_,B0⟩;clear B0 T;obtain⟨o1,o2,o3,o4⟩:=AT.ord_node.1 o;have q1:=AT.high_many l.bare;have q2:=AT.high_many r.bare;have Wm:1+l.bare.many+r.bare.many<=1073741824:=sz;have s_l:=ag (show l.many<=1073741824 by simp only[PT.many];omega);have TI:=ag (show r.many<=1073741824 by simp only[PT.many];omega);have ap0:=ag ap;simp only[PT.Apart] at ap;have MZ:=ag ap;clear ap;have S1:=ag Wm;have IL:=ag ihl;have IR:=ag ihr;clear q1 q2 sz Wm ihl ihr o;by_cases hi:i.key=k
 ·have e0:=yN i.key k true (ZT hi);have pz:=ag hi;have O2:=ag o2;clear hi o1 o2 o3 o4 h;cases r with
  | nil=>have B':=B;clear B;have B:ah w b (ct i l.ptr Kp m0 (h0) (n0)) 372:=B';have cB:=B.cell;have fB:=B.frozen;have zB:=B.size;go_in;go_wp2_with fail;refine Jw (θ3 (Ks (λ_=>False) w) B L) (λv=>ah v w #[k.pos,ι ε k.id] 333) ρB ?_;rintro v1 A1 ⟨I',B1,L1⟩;replace cB:=B1.cell;replace fB:=B1.frozen;replace zB:=B1.size;replace cA:=A1.cell;replace fA:=A1.frozen;replace zA:=A1.size;have qB:=ae B1;have qA:=ae A1;refine Wq ?_;refine nZ ?_;refine Zq (θ4 B1 L1 A1 I') ?_;rintro v2 ⟨B2,L2,A2,JE⟩;replace cB:=B2.cell;replace fB:=B2.frozen;replace zB:=B2.size;replace cA:=A2.cell;replace fA:=A2.frozen;replace zA:=A2.size;clear qB qA B1 L1 A1;go_wp2_with fail;refine Zc (θ4 JE B2 L2 A2) ?_;rintro v3 ⟨JI,B3,L3,A3⟩;replace cB:=B3.cell;replace fB:=B3.frozen;replace zB:=B3.size;replace cA:=A3.cell;replace fA:=A3.frozen;replace zA:=A3.size;refine(vo b l i m0 h0 n0 _ B3).mono ?_;rintro e u ⟨rfl,rfl⟩;go_wp2;go_ret;exact⟨l,rfl,by simp only[PT.bare,AT.del];rw[ZP pz.out],L3,ap0.out.2.2.2.1,λx hx=>by simp[PT.bs,hx],JI.mono (λ_ _ f=>f.elim)⟩
  | node rb rl ri rr=>have B':=B;clear B;have B:ah w b (ct i l.ptr rb m0 (h0) (n0)) 372:=B';have cB:=B.cell;have fB:=B.frozen;have zB:=B.size;go_in;go_wp2_with fail;refine Jw (θ4 (Ks (λ_=>False) w) B L R) (λv=>ah v w #[k.pos,ι ε k.id] 333) ρB ?_;refine δj ?_;clear cB fB zB;intro v1 I' v2 B2 L2 R2 A2 JE cB fB zB cA fA zA;go_wp2_with fail;refine Zc (θ5 JE B2 L2 R2 A2) ?_;rintro v3 ⟨JI,B3,L3,R3,A3⟩;replace cB:=B3.cell;replace fB:=B3.frozen;replace zB:=B3.size;replace cA:=A3.cell;replace fA:=A3.frozen;replace zA:=A3.size;refine(vq b rb l rl rr i ri m0 h0 n0 _ B3 L3 R3 ap0.out O2.out σX IR.out).mono ?_;rintro e v4 ⟨t',rfl,tb,T4,ta,tn,kx⟩;go_wp2;go_ret;exact⟨t',rfl,by rw[tb];simp only[PT.bare];conv=>rhs;unfold AT.del;rw[ZP pz.out],T4,ta,tn,(JI.mono (λ_ _ f=>f.elim)).trans kx (λx _ h=>h)⟩
 ·have e0:=yN i.key k false (ZF hi);by_cases JM:i.key.lt k
  ·have hx:∃y ∈ r.bare.items,y.key=k:=by
    obtain⟨y,hy,hk⟩:=h;exact ξ5
   have hs:=ag (show (if i.key.lt k then (1:Int) else 0)=1 from ZP JM);have OX:=ag o2;have HX:=ag hx;have PG:=ag JM;have pz:=ag hi;clear JM hi h hx o1 o2 o3 o4;have cB:=B.cell;have fB:=B.frozen;have zB:=B.size;go_in;go_wp2_with fail;refine Jw (θ4 (Ks (λx=>x ∈ (PT.node b l i r).bs) w) B L R) (λv=>ah v w #[k.pos,ι ε k.id] 333) ρB ?_;refine δj ?_;clear cB fB zB;intro v1 I' v2 B2 L2 R2 A2 JE cB fB zB cA fA zA;go_wp2_with fail;refine Zc (θ5 JE B2 L2 R2 A2) ?_;rintro v3 ⟨JI,B3,L3,R3,A3⟩;replace cB:=B3.cell;replace fB:=B3.frozen;replace zB:=B3.size;replace cA:=A3.cell;replace fA:=A3.frozen;replace zA:=A3.size;refine(m9 b i m0 (PT.ptr l) (PT.ptr r) h0 n0 k 1 _ B3 hs.out).mono ?_;rintro e v4 ⟨rfl,kx⟩;obtain⟨B4,L4,R4,A4,JJ⟩:=Mw kx (θ5 B3 L3 R3 A3 JI);replace cB:=B4.cell;replace fB:=B4.frozen;replace zB:=B4.size;replace cA:=A4.cell;replace fA:=A4.frozen;replace zA:=A4.size;clear kx;go_wp2_with fail;refine Zw (θ5 JJ B4 L4 R4 A4) ?_;rintro v5 ⟨JP,B5,L5,R5,A5⟩;replace cB:=B5.cell;replace fB:=B5.frozen;replace zB:=B5.size;replace cA:=A5.cell;replace fA:=A5.frozen;replace zA:=A5.size;go_region_with (first|(go_at_call 252;refine au v5 (λv=>Below v5 v5 v) (λv=>KO (λx=>x ∈ (PT.node b l i r).bs) w v/\ah v (b) (ct i l.ptr r.ptr m0 (h0) (n0)) 372/\aR v l/\aR v r/\ah v w #[k.pos,ι ε k.id] 333) ρE (λkx=>⟨JP.step0 kx,ρB,L5.below kx,R5.below kx,ρB⟩) ?_;rintro v6 ⟨JT,B6,L6,R6,A6⟩;(replace cB:=B6.cell;replace fB:=B6.frozen;replace zB:=B6.size);(replace cA:=A6.cell;replace fA:=A6.frozen;replace zA:=A6.size);refine(IR.out k _ R6 MZ.out.2.2.2.2 OX.out HX.out TI.out).mono ?_;rintro e v7 ⟨t',rfl,tb,T7,ta,tn,kx⟩;(have B7:=B6.ko kx σ6);(have L7:=L6.ko kx σc);(have J7:KO (λx=>x ∈ (PT.node b l i r).bs) w v7:=JT.trans kx ρO);(replace cB:=B7.cell;replace fB:=B7.frozen;replace zB:=B7.size);clear kx cA fA zA))
   all_goals
    have bt:b ∉ t'.bs:=λq=>by have ap:=MZ.out;have:=tn b q;grind
    go_wp2_with fail;refine Au v7 (λx=>x=b) (λv=>ah v (b) (ct i l.ptr t'.ptr m0 (h0) (n0)) 372) ρB (λ_ kx=>θ3 (J7.trans kx ρO) (L7.ko kx σc) (T7.ko kx τ3)) ?_;rintro v8 B8 ⟨Ka,L8,T8⟩;replace cB:=B8.cell;replace fB:=B8.frozen;replace zB:=B8.size;have aa:(PT.node b l i t').Apart:=by have ap:=MZ.out;simp only[PT.Apart];grind
    have e1:(PT.bal b l i t').bare=AT.del (PT.node b l i r).bare k:=by rw[PT.bal_bare,tb];simp only[PT.bare];conv=>rhs;unfold AT.del;rw[ZI pz.out,ZP PG.out]
    have e2:t'.many<=r.many:=by simp only[PT.many];rw[tb];exact AT.many_del _ _ OX.out HX.out
    have S2:1+PT.many l+PT.many t'<=1099511627776:=σX;refine(ip b l t' i m0 h0 n0 _ B8 L8 T8 aa S2).mono ?_;rintro e v9 ⟨rfl,T9,kx⟩;go_wp2;go_ret;refine⟨_,rfl,e1,T9,PT.bal_apart _ _ _ _ aa,λx hx=>?_,KO.of_sub Ka kx ?_⟩
    ·exact ξ2
    ·exact ηb
  ·have hx:∃y ∈ l.bare.items,y.key=k:=by
    obtain⟨y,hy,hk⟩:=h;exact ηg
   have hs:=ag (show (if i.key.lt k then (1:Int) else 0)=0 from ZI JM);have OX:=ag o1;have HX:=ag hx;have PG:=ag JM;have pz:=ag hi;clear JM hi h hx o1 o2 o3 o4;have cB:=B.cell;have fB:=B.frozen;have zB:=B.size;go_in;go_wp2_with fail;refine Jw (θ4 (Ks (λx=>x ∈ (PT.node b l i r).bs) w) B L R) (λv=>ah v w #[k.pos,ι ε k.id] 333) ρB ?_;refine δj ?_;clear cB fB zB;intro v1 I' v2 B2 L2 R2 A2 JE cB fB zB cA fA zA;go_wp2_with fail;refine Zc (θ5 JE B2 L2 R2 A2) ?_;rintro v3 ⟨JI,B3,L3,R3,A3⟩;replace cB:=B3.cell;replace fB:=B3.frozen;replace zB:=B3.size;replace cA:=A3.cell;replace fA:=A3.frozen;replace zA:=A3.size;refine(m9 b i m0 (PT.ptr l) (PT.ptr r) h0 n0 k 0 _ B3 hs.out).mono ?_;rintro e v4 ⟨rfl,kx⟩;obtain⟨B4,L4,R4,A4,JJ⟩:=Mw kx (θ5 B3 L3 R3 A3 JI);replace cB:=B4.cell;replace fB:=B4.frozen;replace zB:=B4.size;replace cA:=A4.cell;replace fA:=A4.frozen;replace zA:=A4.size;clear kx;go_wp2_with fail;refine Zw (θ5 JJ B4 L4 R4 A4) ?_;rintro v5 ⟨JP,B5,L5,R5,A5⟩;replace cB:=B5.cell;replace fB:=B5.frozen;replace zB:=B5.size;replace cA:=A5.cell;replace fA:=A5.frozen;replace zA:=A5.size;go_region_with (first|(go_at_call 252;refine au v5 (λv=>Below v5 v5 v) (λv=>KO (λx=>x ∈ (PT.node b l i r).bs) w v/\ah v (b) (ct i l.ptr r.ptr m0 (h0) (n0)) 372/\aR v l/\aR v r/\ah v w #[k.pos,ι ε k.id] 333) ρE (λkx=>⟨JP.step0 kx,ρB,L5.below kx,R5.below kx,ρB⟩) ?_;rintro v6 ⟨JT,B6,L6,R6,A6⟩;(replace cB:=B6.cell;replace fB:=B6.frozen;replace zB:=B6.size);(replace cA:=A6.cell;replace fA:=A6.frozen;replace zA:=A6.size);refine(IL.out k _ L6 MZ.out.2.2.2.1 OX.out HX.out s_l.out).mono ?_;rintro e v7 ⟨t',rfl,tb,T7,ta,tn,kx⟩;(have B7:=B6.ko kx σ6);(have R7:=R6.ko kx σc);(have J7:KO (λx=>x ∈ (PT.node b l i r).bs) w v7:=JT.trans kx ρO);(replace cB:=B7.cell;replace fB:=B7.frozen;replace zB:=B7.size);clear kx cA fA zA))
   all_goals
    have bt:b ∉ t'.bs:=λq=>by have ap:=MZ.out;have:=tn b q;grind
    go_wp2_with fail;refine Au v7 (λx=>x=b) (λv=>ah v (b) (ct i t'.ptr r.ptr m0 (h0) (n0)) 372) ρB (λ_ kx=>θ3 (J7.trans kx ρO) (R7.ko kx σc) (T7.ko kx τ3)) ?_;rintro v8 B8 ⟨Ka,R8,T8⟩;replace cB:=B8.cell;replace fB:=B8.frozen;replace zB:=B8.size;have aa:(PT.node b t' i r).Apart:=by have ap:=MZ.out;simp only[PT.Apart];grind
    have e1:(PT.bal b t' i r).bare=AT.del (PT.node b l i r).bare k:=by rw[PT.bal_bare,tb];simp only[PT.bare];conv=>rhs;unfold AT.del;rw[ZI pz.out,ZI PG.out]
    have e2:t'.many<=l.many:=by simp only[PT.many];rw[tb];exact AT.many_del _ _ OX.out HX.out
    have S2:1+PT.many t'+PT.many r<=1099511627776:=σX;refine(ip b t' r i m0 h0 n0 _ B8 T8 R8 aa S2).mono ?_;rintro e v9 ⟨rfl,T9,kx⟩;go_wp2;go_ret;refine⟨_,rfl,e1,T9,PT.bal_apart _ _ _ _ aa,λx hx=>?_,KO.of_sub Ka kx ?_⟩
    ·exact ξ2
    ·exact ηb
theorem n7 (T:Nat)(t:PT)(x:aG)(w:ϖ)(H:bh w T t)(o:AT.Ord t.bare)(hn:∃y ∈ t.bare.items,y.key=x)(hz:t.many<=1073741824):Calls Ψ 250 #[T,rk x] w λe w'=>e=ϰ Kz/\∃t',bh w' T t'/\t'.bare=t.bare.del x/\(∀b ∈ t'.bs,b ∈ t.bs)/\KO (λb=>b=T\/b ∈ t.bs) w w':=by
 obtain⟨T',R,ha,hT⟩:=H;have HO:=ag o;have HN:=ag hn;have sz:=ag hz;clear o hn hz;have JM:=R.lt;have SU:=T'.cell;have Td:=T'.frozen;have RZ:=T'.size;go_in;go_wp2_with fail;refine Jc (θ3 (Ks (λb=>b=T\/b ∈ t.bs) w) T' R) (λv=>ah v w #[x.pos,ι ε x.id] 333) ρB ?_;rintro v1 N3 ⟨I',Lu,R1⟩;replace SU:=Lu.cell;replace Td:=Lu.frozen;replace RZ:=Lu.size;replace Ml:=N3.cell;replace Mm:=N3.frozen;replace Mn:=N3.size;refine(vl T t x _ Lu R1 HO.out HN.out).mono ?_;rintro e v2 ⟨⟨a,rfl⟩,kx⟩;obtain⟨Mk,R2,Oh,JE⟩:=Mw kx (θ4 Lu R1 N3 I');replace SU:=Mk.cell;replace Td:=Mk.frozen;replace RZ:=Mk.size;replace Ml:=Oh.cell;replace Mm:=Oh.frozen;replace Mn:=Oh.size;clear kx;go_wp2_with fail;refine Zw (θ4 JE Mk R2 Oh) ?_;rintro v3 ⟨JI,LG,R3,OD⟩;replace SU:=LG.cell;replace Td:=LG.frozen;replace RZ:=LG.size;replace Ml:=OD.cell;replace Mm:=OD.frozen;replace Mn:=OD.size;go_region_with (first|(go_at_call 252;refine au v3 (λv=>Below v3 v3 v) (λv=>KO (λb=>b=T\/b ∈ t.bs) w v/\ah v (T) #[t.ptr] 263/\aR v t/\ah v w #[x.pos,ι ε x.id] 333) ρE (λkx=>⟨JI.step0 kx,ρB,R3.below kx,ρB⟩) ?_;rintro v4 ⟨JJ,Lv,R4,O8⟩;(replace SU:=Lv.cell;replace Td:=Lv.frozen;replace RZ:=Lv.size);(replace Ml:=O8.cell;replace Mm:=O8.frozen;replace Mn:=O8.size);refine(xg t.sz t (ZR _) x _ R4 ha HO.out HN.out sz.out).mono ?_;rintro e v5 ⟨t',rfl,tb,Q5,ta,tn,kx⟩;(have OE:=Lv.ko kx σk);(have Rl:=O8.ko kx σk);(have JP:KO (λb=>b=T\/b ∈ t.bs) w v5:=JJ.trans kx ρc);(replace SU:=OE.cell;replace Td:=OE.frozen;replace RZ:=OE.size);(replace Ml:=Rl.cell;replace Mm:=Rl.frozen;replace Mn:=Rl.size);clear kx))
 all_goals
  have Uc:T ∉ t'.bs:=λq=>hT (tn T q);go_wp2_with fail;refine eD v5 (λx=>x=T) (λv=>ah v (T) #[t'.ptr] 263) ρB κu ?_;rintro v6 Pa ⟨JT,Q6⟩;replace SU:=Pa.cell;replace Td:=Pa.frozen;replace RZ:=Pa.size;go_ret;exact⟨rfl,t',⟨Pa,Q6,ta,Uc⟩,tb,tn,JT⟩
theorem Fe (T:Nat)(t:PT)(n:Int)(w:ϖ)(H:bh w T t)(hn:t.many=n):Calls Ψ 255 #[T] w λe w'=>e=ϰ (ι ε n)/\w=w':=by
 obtain⟨B,R,_,_⟩:=H;have Xh:=ag hn;clear hn;have Rr:=B.r;go_in;go_wp2_with fail;refine(xj t n _ R Xh.out).mono ?_;rintro e w' ⟨rfl,rfl⟩;go_wp2;go_ret;exact⟨rfl,rfl⟩
theorem vn (T:Nat)(w:ϖ)(H:bh w T .nil):
  CB 210 #[T] w (χ #[φ (f7 0 0 0 0),dK]):=by
 unfold CB;go_in;go_wp2_with fail;refine(Fe T .nil 0 _ ⟨ah.alloc_old H.1 _,trivial,trivial,by simp[PT.bs]⟩ rfl).mono ?_;rintro e w' ⟨rfl,rfl⟩;go_wp2_with fail;refine jU (λv=>Below w w v/\ah v w (f7 0 0 0 0) 335) ⟨ρE,ρB⟩ ?_;rintro v ⟨gv,Bv⟩;have cv:=Bv.cell;refine ZO (v:=χ #[φ (f7 0 0 0 0),dK]) (by simp[results,Tryz.results210,go_sem,cv]) rfl ⟨rfl,gv⟩
theorem lD (T b:Nat)(l r:PT)(i f:ay)(w:ϖ)(H:bh w T (.node b l i r))(hf:l.bare.first i=f):
  CB 210 #[T] w (χ #[φ (f7 f.key.pos f.key.id f.val.pos f.val.id),fK]):=by
 have Qa:=ag hf;clear hf;have T':ah w T #[b] 263:=H.1;have R:=H.2.1;obtain⟨n,hn⟩:=Nq ((PT.node b l i r).many);have q1:=AT.high_many l.bare;have q2:=AT.high_many r.bare;have nb:1<=n:=by rw[<- hn];simp only[PT.many,PT.bare,AT.many];omega
 have nz:(n==0)=false:=ρ6;have Xh:=ag hn;clear hn q1 q2;have Rr:=T'.r;unfold CB;go_in;go_wp2_with fail;refine pw (θ3 (Ks (λ_=>False) w) T' R) (λv=>ah v w (f7 0 0 0 0) 335) ρB ?_;clear Rr;rintro v1 O1 ⟨I',Lu,R1⟩ Rr;have Ss:=O1.r;refine(Fe T (.node b l i r) n _ ⟨Lu,R1,H.2.2.1,H.2.2.2⟩ Xh.out).mono ?_;rintro e w' ⟨rfl,rfl⟩;go_wp2_with fail;refine bK (θ4 I' Lu R1 O1) ?_;clear Rr Ss;rintro v2 ⟨JE,Mk,R2,O2⟩ Rr;go_loopg [4] (PT.node b l i r).sz (λg x wr=>∃(c:Nat) (a d:PT) (j:ay),x=c/\(PT.node c a j d).sz=g/\aR wr (.node c a j d)/\Hid (a.bare.first j=f)/\wr=v2);case atStart=>exact⟨b,l,r,i,rfl,rfl,R2,Qa,rfl⟩
 case round=>
  obtain⟨c,a,d,j,rfl,hg,S,hf,rfl⟩:=hrel;have Yq:=ag hg;clear hg;have C0:=S.1;have A:=S.2.1;cases a with
  | nil=>obtain⟨m1,h1,n1,C⟩:∃m1 h1 n1,ah wr c (ct j Kp d.ptr m1 (h1) (n1)) 372:=⟨_,_,_,C0⟩;obtain rfl:j=f:=hf.out;clear C0 S A hf Qa;have Ss:=C.r;go_wp2_with fail;refine δG ?_;rintro v ⟨k0,Bv⟩;have cv:=Bv.cell;refine ZO (v:=χ #[φ (f7 j.key.pos j.key.id j.val.pos j.val.id),fK]) (by simp[results,Tryz.results210,go_sem,cv]) rfl ⟨rfl,k0.below (ZR _) (λ_ _ f=>f)⟩
  | node c2 a2 j2 d2=>
   obtain⟨m1,h1,n1,C⟩:∃m1 h1 n1,ah wr c (ct j c2 d.ptr m1 (h1) (n1)) 372:=⟨_,_,_,C0⟩;have Ss:=C.r;have H2:=ag (And.intro A hf);clear C0 S A hf;go_wp2_with fail;go_roundg (PT.node c2 a2 j2 d2).sz;case measure=>exact ξG
   case rel=>exact⟨c2,a2,d2,j2,rfl,rfl,H2.out.1,ag H2.out.2.out,rfl⟩
theorem xi (t:PT)(p:Int)(c:Bool)(w:ϖ)(R:aR w t)(hc:t.bare.hasAt p=c):Calls Ψ 274 #[t.ptr,p] w λe w'=>e=ϰ (β c)/\w=w':=by
 cases t with
 | nil=>obtain rfl:false=c:=hc;show Calls Ψ 274 #[Kp,p] w λe w'=>e=ϰ dK/\w=w';exact ξw
 | node b l i r=>have hd:decide ((PT.lst l i r).val.pos<=p)=c:=hc;show Calls Ψ 274 #[b,p] w λe w'=>e=ϰ (β c)/\w=w';have B0:=R.1;obtain⟨m,h1,n1,B,hm⟩:∃m h1 n1,ah w b (ct i l.ptr r.ptr m (h1) (n1)) 372/\PT.lst l i r=m:=⟨_,_,_,B0,rfl⟩;rw[hm] at hd;clear hm B0 R hc;have Rr:=B.r;exact ξw
theorem vm (T:Nat)(t:PT)(p:Int)(w:ϖ)(H:bh w T t)(hc:t.bare.hasAt p=false):
  CB 258 #[T,p] w (χ #[φ (f7 0 0 0 0),dK]):=by
 obtain⟨B,R,_,_⟩:=H;have QT:=ag hc;clear hc;have Rr:=B.r;unfold CB;go_in;go_wp2_with fail;refine(xi t p false _ (R.below ρE) QT.out).mono ?_;rintro e w' ⟨rfl,rfl⟩;go_wp2_with fail;refine jU (λv=>Below w w v/\ah v w (f7 0 0 0 0) 335) ⟨ρE,ρB⟩ ?_;rintro v ⟨gv,Bv⟩;have cv:=Bv.cell;refine ZO (v:=χ #[φ (f7 0 0 0 0),dK]) (by simp[results,Tryz.results258,go_sem,cv]) rfl ⟨rfl,gv⟩
theorem sB (T:Nat)(t:PT)(p:Int)(f:ay)(w:ϖ)(H:bh w T t)(o:AT.Ord t.bare)(hf:t.bare.firstAt p=some f):
  CB 258 #[T,p] w (χ #[φ (f7 f.key.pos f.key.id f.val.pos f.val.id),fK]):=by
 have hh:Hid (t.bare.hasAt p=true):=by have:=AT.firstAt_spec t.bare p o;rw[hf] at this;exact(AT.hasAt_iff t.bare p).2 ⟨f,this.1,this.2.1⟩
 have Qa:=ag hf;clear hf;obtain⟨T',R,_,_⟩:=H;have Rr:=T'.r;unfold CB;go_in;go_wp2_with fail;refine pw (θ3 (Ks (λ_=>False) w) T' R) (λv=>ah v w (f7 0 0 0 0) 335) ρB ?_;clear Rr;rintro v1 O1 ⟨I',Lu,R1⟩ Rr;have Ss:=O1.r;refine(xi t p true _ R1 hh.out).mono ?_;rintro e w' ⟨rfl,rfl⟩;go_wp2_with fail;refine bK (θ4 I' Lu R1 O1) ?_;clear Rr Ss;rintro v2 ⟨JE,Mk,R2,O2⟩ Rr;go_loopg [6] t.sz (λg x wr=>∃s:PT,x=s.ptr/\s.sz=g/\aR wr s/\Hid (s.bare.firstAt p=some f)/\wr=v2);case atStart=>exact⟨t,rfl,rfl,R2,Qa,rfl⟩
 case round=>
  obtain⟨s,rfl,hg,S,hf,rfl⟩:=hrel;have Yq:=ag hg;clear hg;cases s with
  | nil=>exact az hf.out (by simp[PT.bare,AT.firstAt])
  | node c a j d=>
   simp only[PT.ptr,PT.adr_node];have C0:=S.1;have A:=S.2.1;have D:=S.2.2;obtain⟨m1,h1,n1,C⟩:∃m1 h1 n1,ah wr c (ct j a.ptr d.ptr m1 (h1) (n1)) 372:=⟨_,_,_,C0⟩;have Qb:(if a.bare.hasAt p then a.bare.firstAt p else if j.val.pos<=p then some j else d.bare.firstAt p)=some f:=hf.out;clear C0 S hf Qa;have Ss:=C.r;by_cases ha:a.bare.hasAt p=true
   ·rw[ZP ha] at Qb;have Pc:=ag ha;have OS:=ag Qb;clear ha Qb;go_wp2_with fail;refine(xi a p true _ A Pc.out).mono ?_;rintro e w' ⟨rfl,rfl⟩;go_wp2_with fail;go_roundg a.sz;case measure=>exact ξG
    case rel=>exact⟨a,rfl,rfl,A,OS,rfl⟩
   ·have ha2:a.bare.hasAt p=false:=by simpa using ha
    rw[ZI ha] at Qb;by_cases hj:j.val.pos<=p
    ·rw[ZP hj] at Qb;obtain rfl:j=f:=Option.some.inj Qb;have Pc:=ag ha2;clear ha ha2 Qb;have dj:=ZT hj;clear hj;go_wp2_with fail;refine(xi a p false _ A Pc.out).mono ?_;rintro e w' ⟨rfl,rfl⟩;go_wp2_with fail;refine δG ?_;rintro v ⟨k0,Bv⟩;have cv:=Bv.cell;refine ZO (v:=χ #[φ (f7 j.key.pos j.key.id j.val.pos j.val.id),fK]) (by simp[results,Tryz.results258,go_sem,cv]) rfl ⟨rfl,k0.below (ZR _) (λ_ _ f=>f)⟩
    ·rw[ZI hj] at Qb;have dj:=ZF hj;have Pc:=ag ha2;have OS:=ag Qb;clear ha ha2 Qb hj;go_wp2_with fail;refine(xi a p false _ A Pc.out).mono ?_;rintro e w' ⟨rfl,rfl⟩;go_wp2_with fail;go_roundg d.sz;case measure=>exact ξG
     case rel=>exact⟨d,rfl,rfl,D,OS,rfl⟩
theorem AT.better_self (i:ay):AT.better i i=i:=by unfold AT.better;split<;>rfl
theorem Df (MB OB:Nat)(i z:ay)(w:ϖ)(M:ah w MB #[dK] 4)(O:ah w OB (f7 z.key.pos z.key.id z.val.pos z.val.id) 335)(hMO:MB≠OB):Calls Ψ 263 #[φ (f7 i.key.pos i.key.id i.val.pos i.val.id),MB,OB] w λe w'=>e=ϰ (χ #[])/\ah w' MB #[fK] 4/\ah w' OB (f7 i.key.pos i.key.id i.val.pos i.val.id) 335/\KO (λx=>x=MB\/x=OB) w w':=by
 have hMO':=hMO.symm;have Rr:=θ2 M.r O.r;go_in;go_wp2_with fail;refine au w (λv=>KO (λx=>x=MB\/x=OB) w v) (λv=>KO (λx=>x=MB\/x=OB) w v/\ah v (MB) #[fK] 4/\ah v (OB) (f7 i.key.pos i.key.id i.val.pos i.val.id) 335/\ah v w (f7 i.key.pos i.key.id i.val.pos i.val.id) 335) ρK (λkx=>⟨kx.mono ρc,ρB,ρB,ρB⟩) ?_;rintro v1 ⟨I',M1,O1,A1⟩;replace Rr:=θ3 M1.r O1.r A1.r;refine(kY i i i _ (AT.better_self i)).mono ?_;rintro e v2 ⟨rfl,kx⟩;clear Rr;obtain⟨⟨M2,O2,A2,JE⟩,Rr⟩:=Mx kx (θ4 M1 O1 A1 I');clear kx;go_wp2_with fail;refine dY v2 (λv=>KO (λx=>x=OB) v2 v) (λv=>KO (λx=>x=MB\/x=OB) w v/\ah v (MB) #[fK] 4/\ah v (OB) (f7 i.key.pos i.key.id i.val.pos i.val.id) 335) ρK (λkx=>⟨JE.trans kx ρc,ρB,ρB⟩) ?_;rintro v3 ⟨JI,M3,O3⟩;replace Rr:=θ2 M3.r O3.r;go_end0;exact⟨rfl,M3,O3,JI⟩
theorem Dg (MB OB:Nat)(i z m:ay)(w:ϖ)(M:ah w MB #[fK] 4)(O:ah w OB (f7 z.key.pos z.key.id z.val.pos z.val.id) 335)(hMO:MB≠OB)(hm:AT.better z i=m):Calls Ψ 263 #[φ (f7 i.key.pos i.key.id i.val.pos i.val.id),MB,OB] w λe w'=>e=ϰ (χ #[])/\ah w' MB #[fK] 4/\ah w' OB (f7 m.key.pos m.key.id m.val.pos m.val.id) 335/\KO (λx=>x=MB\/x=OB) w w':=by
 have hMO':=hMO.symm;have hm:=ag hm;have Rr:=θ2 M.r O.r;go_in;go_wp2_with fail;refine au w (λv=>KO (λx=>x=MB) w v) (λv=>KO (λx=>x=MB\/x=OB) w v/\ah v (MB) #[fK] 4/\ah v (OB) (f7 z.key.pos z.key.id z.val.pos z.val.id) 335/\ah v w (f7 i.key.pos i.key.id i.val.pos i.val.id) 335) ρK (λkx=>⟨kx.mono ρc,ρB,ρB,ρB⟩) ?_;rintro v1 ⟨I',M1,O1,A1⟩;replace Rr:=θ3 M1.r O1.r A1.r;refine(kY z i m _ hm.out).mono ?_;rintro e v2 ⟨rfl,kx⟩;clear Rr;obtain⟨⟨M2,O2,A2,JE⟩,Rr⟩:=Mx kx (θ4 M1 O1 A1 I');clear kx;go_wp2_with fail;refine dY v2 (λv=>KO (λx=>x=OB) v2 v) (λv=>KO (λx=>x=MB\/x=OB) w v/\ah v (MB) #[fK] 4/\ah v (OB) (f7 m.key.pos m.key.id m.val.pos m.val.id) 335) ρK (λkx=>⟨JE.trans kx ρc,ρB,ρB⟩) ?_;rintro v3 ⟨JI,M3,O3⟩;replace Rr:=θ2 M3.r O3.r;go_end0;exact⟨rfl,M3,O3,JI⟩
abbrev bJ (i:ay):Array ϗ:=#[ι υ i.key.pos,ι ε i.key.id,ι υ i.val.pos,ι ε i.val.id]
def zm (o:Option ay)(i:ay):ay:=match o with|none=>i|some z=>AT.better z i
theorem BX (o:Option ay)(i:ay):AT.takeO o (some i)=some (zm o i):=by cases o<;>rfl
theorem Cv (o:Option ay)(MB OB:Nat)(i:ay)(w:ϖ)(M:ah w MB #[β o.isSome] 4)(O:ah w OB (bJ (o.getD ⟨⟨0,0⟩,⟨0,0⟩⟩)) 335)(hMO:MB≠OB):Calls Ψ 263 #[φ (bJ (i)),MB,OB] w λe w'=>e=ϰ (χ #[])/\ah w' MB #[fK] 4/\ah w' OB (bJ (zm o i)) 335/\KO (λx=>x=MB\/x=OB) w w':=by
 cases o with
 | none=>exact Df MB OB i _ w M O hMO
 | some z=>exact Dg MB OB i z _ w M O hMO rfl
theorem xf (T:Nat)(t:PT)(p:Int)(f:Option ay)(w:ϖ)(H:bh w T t)(hf:t.bare.bestTo p=f):
  CB 228 #[T,p] w (χ #[φ (bJ (f.getD ⟨⟨0,0⟩,⟨0,0⟩⟩)),β f.isSome]):=by
 have Qa:Hid (t.bare.belowAcc p none=f):=hf;obtain⟨T',R,_,_⟩:=H;have PG:=R.lt;have Rr:=T'.r;unfold CB;go_in;go_upto_region 4 with (fail);refine jf (θ3 (Ks (λ_=>False) w) T' R) (λv=>ah v w (f7 0 0 0 0) 335/\ah v (w+1) (f7 0 0 0 0) 335/\ah v (w+1+1) #[dK] 4) ⟨ρB,ρB,ρB⟩ ?_;clear Rr;rintro v1 ⟨V1,O1,M1⟩ ⟨I',Lu,R1⟩ Rr;have Ss:=V1.r;replace cO:=O1.cell;replace fO:=O1.frozen;replace zO:=O1.size;replace cM:=M1.cell;replace fM:=M1.frozen;replace zM:=M1.size;go_wp2_with fail;refine bK (θ6 I' Lu R1 V1 O1 M1) ?_;clear Rr Ss;rintro v2 ⟨JE,Mk,R2,V2,O2,M2⟩ Rr;replace cO:=O2.cell;replace fO:=O2.frozen;replace zO:=O2.size;replace cM:=M2.cell;replace fM:=M2.frozen;replace zM:=M2.size;go_loopg [9] t.sz (λg x wr=>∃(s:PT) (acc:Option ay),x=s.ptr/\s.sz=g/\aR wr s/\ah wr w (f7 0 0 0 0) 335/\ah wr (w+1) (bJ (acc.getD ⟨⟨0,0⟩,⟨0,0⟩⟩)) 335/\ah wr (w+1+1) #[β acc.isSome] 4/\KO (λ_=>False) w wr/\Hid (s.bare.belowAcc p acc=f)/\(∀x ∈ s.bs,x<w));case atStart=>exact⟨t,none,rfl,rfl,R2,V2,O2,M2,JE,Qa,PG⟩
 case round=>
  obtain⟨s,acc,rfl,hg,S,V,O,M,k0,hf,JM⟩:=hrel;have Yq:=ag hg;clear hg;clear cO fO zO cM fM zM T' R V2 O2 M2 Mk R2 JE Qa;have Ss:=V.r;have cO:=O.cell;have fO:=O.frozen;have zO:=O.size;have cM:=M.cell;have fM:=M.frozen;have zM:=M.size;cases s with
  | nil=>
   simp only[PT.ptr,PT.adr_nil];obtain rfl:acc=f:=hf.out;clear hf;obtain⟨mb,emb⟩:=Nq acc.isSome;obtain⟨ob,eob⟩:=Nq (acc.getD ⟨⟨0,0⟩,⟨0,0⟩⟩);rw[emb] at M cM;rw[eob] at O cO;have Emb:=ag emb;have Eob:=ag eob;clear emb eob;go_wp2_with fail;go_region
   all_goals
    go_wp2_with fail;refine dY wr (λv=>KO (λ_=>False) w v) (λv=>KO (λ_=>False) w v/\ah v w (bJ (ob)) 335) ((k0.trans (show KO (λx=>x=w.heap.size) _ _ from ρK) ρc)) (λkx=>⟨kx,ρB⟩) ?_;rintro v ⟨k0,Bv⟩;have cv:=Bv.cell;refine ZO (v:=χ #[φ (bJ (ob)),β mb]) (by simp[results,Tryz.results228,go_sem,cv]) rfl ⟨by rw[<- Eob.out,<- Emb.out],k0.below (ZR _) (λ_ _ f=>f)⟩
  | node c a j d=>
   simp only[PT.ptr,PT.adr_node];have C0:=S.1;have A:=S.2.1;have D:=S.2.2;obtain⟨m1,h1,n1,C⟩:∃m1 h1 n1,ah wr c (ct j a.ptr d.ptr m1 (h1) (n1)) 372:=⟨_,_,_,C0⟩;have Qb:(if p<j.key.pos then a.bare.belowAcc p acc else d.bare.belowAcc p (AT.takeO (AT.takeO acc (some j)) a.bare.least))=f:=hf.out;clear C0 S hf;have cC:=C.cell;have fC:=C.frozen;have zC:=C.size;by_cases hp:p<j.key.pos
   ·rw[ZP hp] at Qb;have OS:=ag Qb;clear Qb;go_wp2_with fail;go_roundg a.sz;case measure=>exact ξG
    case rel=>exact⟨a,acc,rfl,rfl,A,V,O,M,k0,OS,λx hx=>JM x (by simp[PT.bs,hx])⟩
   ·rw[ZI hp,BX] at Qb;obtain⟨m,em⟩:=Nq (zm acc j);rw[em] at Qb;have cTk:∀v,ah v (w+1+1) #[β acc.isSome] 4->ah v (w+1) (bJ (acc.getD ⟨⟨0,0⟩,⟨0,0⟩⟩)) 335->Calls Ψ 263 #[φ (bJ (j)),ψ (some ⟨(w+1+1),0,none⟩),ψ (some ⟨(w+1),0,none⟩)] v λe w'=>e=ϰ (χ #[])/\ah w' (w+1+1) #[fK] 4/\ah w' (w+1) (bJ (m)) 335/\KO (λx=>x=(w.heap.size+1+1)\/x=(w.heap.size+1)) v w':=λv h1 h2=>by have:=Cv acc (w+1+1) (w+1) j v h1 h2 ρa;rw[em] at this;exact this
    have OS:=ag Qb;have cTk':=ag cTk;clear Qb em cTk;have hA:∀x ∈ a.bs,x<w:=λx hx=>JM x (by simp[PT.bs,hx]);have hD:∀x ∈ d.bs,x<w:=λx hx=>JM x (by simp[PT.bs,hx]);have hc:c<w:=JM c (by simp[PT.bs]);have V1:=V;have O1:=O;have M1:=M;have C1:=C;have A1:=A;have D1:=D;have I':=k0;have dp:=ZF hp;clear V O M C A D k0 hp JM;go_wp2_with fail;refine sf (θ7 I' V1 O1 M1 C1 A1 D1) ?_;clear Rr Ss;rintro v2 ⟨JE,V2,O2,M2,C2,A2,D2⟩ Rr;replace cO:=O2.cell;replace fO:=O2.frozen;replace zO:=O2.size;replace cM:=M2.cell;replace fM:=M2.frozen;replace zM:=M2.size;replace cC:=C2.cell;replace fC:=C2.frozen;replace zC:=C2.size;refine(cTk'.out _ M2 O2).mono ?_;rintro e v3 ⟨rfl,M3,O3,kx⟩;have V3:=V2.ko kx ρX;have C3:=C2.ko kx ρX;have A3:=A2.ko kx (by intro x hx h;have:=hA x hx;(try dsimp only at h);omega);have D3:=D2.ko kx (by intro x hx h;have:=hD x hx;(try dsimp only at h);omega);have JI:KO (λ_=>False) w v3:=JE.trans kx ρc;replace Rr:=V3.r;replace cO:=O3.cell;replace fO:=O3.frozen;replace zO:=O3.size;replace cM:=M3.cell;replace fM:=M3.frozen;replace zM:=M3.size;replace cC:=C3.cell;replace fC:=C3.frozen;replace zC:=C3.size;clear kx;rcases A3.root with ⟨e,hl⟩|⟨c2,i2,p2,q2,m2,h2,n2,e,C2,hl,hc2⟩
    ·simp only[PT.ptr,e] at C3 cC;rw[hl] at OS;go_wp2_with fail;go_roundg d.sz;case measure=>exact ξG
     case rel=>exact⟨d,some m,rfl,rfl,D3,V3,O3,M3,JI,OS,hD⟩
    ·simp only[PT.ptr,e] at C3 cC;rw[hl] at OS;have hc3:c2<w:=hA c2 hc2;have Ss:=C2.r;go_wp2_with fail;refine sf (θ7 JI V3 O3 M3 C3 A3 D3) ?_;clear Rr Ss;rintro v4 ⟨JJ,V4,O4,M4,C4,A4,D4⟩ Rr;replace cO:=O4.cell;replace fO:=O4.frozen;replace zO:=O4.size;replace cM:=M4.cell;replace fM:=M4.frozen;replace zM:=M4.size;replace cC:=C4.cell;replace fC:=C4.frozen;replace zC:=C4.size;refine(Cv (some m) (w+1+1) (w+1) m2 _ M4 O4 ρa).mono ?_;rintro e v5 ⟨rfl,M5,O5,kx⟩;have D5:=D4.ko kx (by intro x hx h;have:=hD x hx;(try dsimp only at h);omega);have C5:=C4.ko kx ρj;have V5:=V4.ko kx ρj;have JP:KO (λ_=>False) w v5:=JJ.trans kx ρc;have cC:=C5.cell;have fC:=C5.frozen;have zC:=C5.size;clear kx C4 V4 M4 O4 D4 C2;go_wp2_with fail;go_roundg d.sz;case measure=>exact ξG
     case rel=>exact⟨d,some (AT.better m m2),rfl,rfl,D5,V5,O5,M5,JP,OS,hD⟩
end Go.Proofs.YtfdlemkplejdnaaGreat
