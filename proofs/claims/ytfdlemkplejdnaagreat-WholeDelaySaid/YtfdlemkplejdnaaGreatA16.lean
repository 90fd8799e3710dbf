/- WholeDelay, part 16. Conditions: none. -/
import Derived.Test.YtfdlemkplejdnaaGreatA11
namespace Go.Proofs.YtfdlemkplejdnaaGreat
open Go.RowKit Go.Sort
open Value renaming int->ι,pointer->ψ,slice->ζ,tuple->χ,agg->φ,map->μ,bool->β
open IntKind renaming u64->υ,i64->ε,u16->ω
open Ending renaming returned->ϰ
open Go.Proofs.Tryz renaming prog->Ψ,underlying3->Θ,underlying147->Δ,underlying152->Γ,underlying202->Φ,underlying39->Ξ,underlying207->Ω
open Go renaming World->ϖ,Value->ϗ
set_option linter.unusedVariables false
set_option linter.unusedSimpArgs false
set_option maxHeartbeats 8000000
set_option maxRecDepth 100000
theorem bh.below {w w':ϖ} {T:Nat} {t:PT} (h:bh w T t)(k:Below w w w'):bh w' T t:=⟨h.1.below k h.1.size,h.2.1.below k,h.2.2⟩
instance {w T t}:Mv (bh w T t) w (λv'=>bh v' T t):=⟨λk h=>bh.below h k⟩
theorem bh.ko {w w':ϖ} {F:Nat->Prop} {T:Nat} {t:PT} (h:bh w T t)(k:KO F w w')(h1:¬F T)(h2:∀b ∈ t.bs,¬F b):bh w' T t:=⟨h.1.ko k h1,h.2.1.ko k h2,h.2.2⟩
theorem aR.ne_map {w:ϖ} {M:Nat} {L:List (Int × ϗ)} (k:aB w M L):∀{t:PT},aR w t->∀x ∈ t.bs,x≠M
 | .nil,_,_,h=>by simp[PT.bs] at h
 | .node b l i r,⟨h,hl,hr⟩,x,hx=>by
  simp only[PT.bs,ZC,ZM] at hx;rcases hx with rfl|hx|hx
  ·exact aC h k
  ·exact hl.ne_map k x hx
  ·exact hr.ne_map k x hx
theorem aR.ne_blk {w:ϖ} {B:Nat} {cs:Array ϗ} {ty:TypeId} (k:ah w B cs ty)(e:372≠ty):∀{t:PT},aR w t->∀x ∈ t.bs,x≠B
 | .nil,_,_,h=>by simp[PT.bs] at h
 | .node b l i r,⟨h,hl,hr⟩,x,hx=>by
  simp only[PT.bs,ZC,ZM] at hx;rcases hx with rfl|hx|hx
  ·exact dX h k e
  ·exact hl.ne_blk k e x hx
  ·exact hr.ne_blk k e x hx
def aQ (ty:TypeId)(w:ϖ)(B:Nat)(m:TM)(fp:Nat->Prop):Prop:=∃(T M:Nat)(t:PT)(L:List (Int × ϗ)),ah w B #[T,.map (some M)] ty/\bh w T t/\aB w M L/\AT.Ord t.bare/\dq m t.bare/\(∀j,lk j L=(m j).map (λp=>Value.agg (bJ (gK j p))))/\m.ok/\(fp B/\fp T/\fp M/\∀x ∈ t.bs,fp x)/\(∀x,fp x->x<w.heap.size)
theorem aQ.ko {ty:TypeId} {w w':ϖ} {F fp:Nat->Prop} {B:Nat} {m:TM} (h:aQ ty w B m fp)(k:KO F w w')(hF:∀x,fp x->¬F x):aQ ty w' B m fp:=by obtain⟨T,M,t,L,h1,h2,h3,h4,h5,h6,h7,h8,h9⟩:=h;exact⟨T,M,t,L,h1.ko k (hF _ h8.1),h2.ko k (hF _ h8.2.1) (λb hb=>hF _ (h8.2.2.2 b hb)),h3.ko k (hF _ h8.2.2.1),h4,h5,h6,h7,h8,λx hx=>ZB (h9 x hx) k.size⟩
theorem aQ.below {ty:TypeId} {w w':ϖ} {fp:Nat->Prop} {B:Nat} {m:TM} (h:aQ ty w B m fp)(k:Below w w w'):aQ ty w' B m fp:=h.ko (KO.of_below (F:=λ_=>False) k) (λ_ _ f=>f)
instance {ty w B m fp}:Mv (aQ ty w B m fp) w (λv'=>aQ ty v' B m fp):=⟨λk h=>aQ.below h k⟩
def eZ (ty:TypeId)(w w':ϖ)(B:Nat)(m:TM)(fp:Nat->Prop):Prop:=∃NF,aQ ty w' B m NF/\(∀x,NF x->fp x\/w.heap.size<=x)/\KO fp w w'
theorem GW (w:ϖ):Calls Ψ 103 #[] w λe w'=>e=ϰ w/\bh w' w .nil/\Below w w w':=by go_in;go_wp2;go_ret;exact⟨rfl,⟨show ah _ _ #[Kp] _ from ρB,trivial,trivial,by simp[PT.bs]⟩,ρE⟩
theorem Gl (w:ϖ):Calls Ψ 70 #[] w λe w'=>∃B:Nat,e=ϰ B/\(∃fp,aQ 209 w' B (λ_=>none) fp/\∀x,fp x->w.heap.size<=x)/\Below w w w':=ξs
theorem CM (w:ϖ):Calls Ψ 71 #[] w λe w'=>∃B:Nat,e=ϰ B/\(∃fp,aQ 211 w' B (λ_=>none) fp/\∀x,fp x->w.heap.size<=x)/\Below w w w':=ξs
theorem wQ (B:Nat)(m:TM)(fp:Nat->Prop)(id:Int)(w:ϖ)(H:aQ 209 w B m fp)(hm:m id=none):
  CB 208 #[B,ι ε id] w (ι ε 6):=by
 obtain⟨T,M,t,L,B',T',M',o,fi,hl,ok,fb,lt⟩:=H;refine η3 ?_;intro YI RR YJ RS SK zT zM zB zb;refine δv ?_;intro lM;simp only[Option.map_none,Option.getD_none,Option.isSome_none] at lM;have Rr:=B'.r;clear hl fi ok lt fb o zb RS SK;unfold CB;go_in;go_wp2;go_ret;exact⟨rfl,ρE⟩
theorem tV (B:Nat)(m:TM)(fp:Nat->Prop)(id:Int)(p:Int × Int)(ids:List Int)(w:ϖ)(H:aQ 209 w B m fp)(hm:m id=some p)(hi:∀j,m j≠none->j ∈ ids)(hz:ids.length<=1000000):Calls Ψ 208 #[B,ι ε id] w λe w'=>e=ϰ Kz/\eZ 209 w w' B (aO m id none) fp:=by
 obtain⟨T,M,t,L,B',T',M',o,fi,hl,ok,fb,lt⟩:=H;refine η3 ?_;intro YI RR YJ RS SK zT zM zB zb;have hd:=dq.del fi o hm;have sz:t.many<=1073741824:=τe;refine δv ?_;intro lM;simp only[Option.map_some,Option.getD_some,Option.isSome_some] at lM;have N6:=B'.cell;have N9:=B'.frozen;have Of:=B'.size;have Nr:=ag hl;clear hl;go_in;go_upto_region 6 with (fail);refine Jw (θ4 (Ks fp w) B' T' M') (λv=>ah v w (bJ (gK id p)) 335) ρB ?_;rintro v1 X1 ⟨I',Lj,Lu,NP⟩;replace N6:=Lj.cell;replace N9:=Lj.frozen;replace Of:=Lj.size;replace cX:=X1.cell;replace fX:=X1.frozen;replace zX:=X1.size;obtain⟨v2,Qw,Nl,kx,zx⟩:=gO Ω Θ NP id;have nXM:w≠M:=ρa;clear lM;go_upto_region 7 with (fail);have KX:=Lj.ko kx ρj;have Mk:=Lu.ko kx ρj σF;have X2:=X1.ko kx ρj;have JE:KO fp w v2:=I'.trans kx σy;replace N6:=KX.cell;replace N9:=KX.frozen;replace Of:=KX.size;replace cX:=X2.cell;replace fX:=X2.frozen;replace zX:=X2.size;clear kx Qw;refine Zw (θ5 JE KX Mk Nl X2) ?_;rintro v3 ⟨JI,KK,LG,NE,X3⟩;replace N6:=KK.cell;replace N9:=KK.frozen;replace Of:=KK.size;replace cX:=X3.cell;replace fX:=X3.frozen;replace zX:=X3.size;go_region_with (first|(go_at_call 250;refine au v3 (λv=>Below v3 v3 v) (λv=>KO fp w v/\ah v (B) #[T,.map (some M)] 209/\bh v T t/\aB v (M) (dH id L)/\ah v w (bJ (gK id p)) 335) ρE (λkx=>⟨JI.step0 kx,ρB,LG.below kx,NE.below kx,ρB⟩) ?_;rintro v4 ⟨JJ,Lq,Lv,Oi,X4⟩;(replace N6:=Lq.cell;replace N9:=Lq.frozen;replace Of:=Lq.size);(replace cX:=X4.cell;replace fX:=X4.frozen;replace zX:=X4.size);refine(n7 T t (gK id p).key _ Lv o hd.1 sz).mono ?_;rintro e v5 ⟨rfl,t',OE,tb,tn,kx⟩;(have LI:=Lq.ko kx ρi);(have TP:=Oi.ko kx ρi);(have X5:=X4.ko kx ρi);(have JP:KO fp w v5:=JJ.trans kx ρ1);(replace N6:=LI.cell;replace N9:=LI.frozen;replace Of:=LI.size);(replace cX:=X5.cell;replace fX:=X5.frozen;replace zX:=X5.size);clear kx))
 all_goals
  go_wp2;go_ret;refine⟨rfl,fp,⟨T,M,t',dH id L,LI,OE,TP,by rw[tb];exact AT.ord_del _ _ o hd.1,by rw[tb];exact hd.2,λj=>?_,jL ok,⟨fb.1,fb.2.1,fb.2.2.1,λx hx=>fb.2.2.2 x (tn x hx)⟩,λx hx=>ZB (lt x hx) JP.size⟩,λx hx=>.inl hx,JP⟩;rw[jb,Nr.out];unfold aO;split<;>rfl
theorem tU (B:Nat)(m:TM)(fp:Nat->Prop)(id:Int)(ids:List Int)(w:ϖ)(H:aQ 209 w B m fp)(hi:∀j,m j≠none->j ∈ ids)(hz:ids.length<=1000000):Calls Ψ 208 #[B,ι ε id] w λe w'=>∃er,e=ϰ (ι ε er)/\eZ 209 w w' B (aO m id none) fp:=by
 cases hm:m id with
 | none=>refine(wQ B m fp id w H hm).mono λe w' ⟨h1,h2⟩=>⟨6,h1,fp,?_,λx hx=>.inl hx,(KO.of_below (F:=λ_=>False) h2).mono λ_ _ f=>f.elim⟩;exact ηV
 | some p=>exact(tV B m fp id p ids w H hm hi hz).mono λe w' ⟨h1,h2⟩=>⟨0,h1,h2⟩
theorem wR (B:Nat)(m:TM)(fp:Nat->Prop)(id:Int)(w:ϖ)(H:aQ 211 w B m fp)(hm:m id=none):
  CB 223 #[B,ι ε id] w (ι ε 6):=by
 obtain⟨T,M,t,L,B',T',M',o,fi,hl,ok,fb,lt⟩:=H;refine η3 ?_;intro YI RR YJ RS SK zT zM zB zb;refine δv ?_;intro lM;simp only[Option.map_none,Option.getD_none,Option.isSome_none] at lM;have Rr:=B'.r;clear hl fi ok lt fb o zb RS SK;unfold CB;go_in;go_wp2;go_ret;exact⟨rfl,ρE⟩
theorem tW (B:Nat)(m:TM)(fp:Nat->Prop)(id:Int)(p:Int × Int)(ids:List Int)(w:ϖ)(H:aQ 211 w B m fp)(hm:m id=some p)(hi:∀j,m j≠none->j ∈ ids)(hz:ids.length<=1000000):Calls Ψ 223 #[B,ι ε id] w λe w'=>e=ϰ Kz/\eZ 211 w w' B (aO m id none) fp:=by
 obtain⟨T,M,t,L,B',T',M',o,fi,hl,ok,fb,lt⟩:=H;refine η3 ?_;intro YI RR YJ RS SK zT zM zB zb;have hd:=dq.del fi o hm;have sz:t.many<=1073741824:=τe;refine δv ?_;intro lM;simp only[Option.map_some,Option.getD_some,Option.isSome_some] at lM;have N6:=B'.cell;have N9:=B'.frozen;have Of:=B'.size;have Nr:=ag hl;clear hl;go_in;go_upto_region 6 with (fail);refine Jw (θ4 (Ks fp w) B' T' M') (λv=>ah v w (bJ (gK id p)) 335) ρB ?_;rintro v1 X1 ⟨I',Lj,Lu,NP⟩;replace N6:=Lj.cell;replace N9:=Lj.frozen;replace Of:=Lj.size;replace cX:=X1.cell;replace fX:=X1.frozen;replace zX:=X1.size;obtain⟨v2,Qw,Nl,kx,zx⟩:=gO Ω Θ NP id;have nXM:w≠M:=ρa;clear lM;go_upto_region 7 with (fail);have KX:=Lj.ko kx ρj;have Mk:=Lu.ko kx ρj σF;have X2:=X1.ko kx ρj;have JE:KO fp w v2:=I'.trans kx σy;replace N6:=KX.cell;replace N9:=KX.frozen;replace Of:=KX.size;replace cX:=X2.cell;replace fX:=X2.frozen;replace zX:=X2.size;clear kx Qw;refine Zw (θ5 JE KX Mk Nl X2) ?_;rintro v3 ⟨JI,KK,LG,NE,X3⟩;replace N6:=KK.cell;replace N9:=KK.frozen;replace Of:=KK.size;replace cX:=X3.cell;replace fX:=X3.frozen;replace zX:=X3.size;go_region_with (first|(go_at_call 250;refine au v3 (λv=>Below v3 v3 v) (λv=>KO fp w v/\ah v (B) #[T,.map (some M)] 211/\bh v T t/\aB v (M) (dH id L)/\ah v w (bJ (gK id p)) 335) ρE (λkx=>⟨JI.step0 kx,ρB,LG.below kx,NE.below kx,ρB⟩) ?_;rintro v4 ⟨JJ,Lq,Lv,Oi,X4⟩;(replace N6:=Lq.cell;replace N9:=Lq.frozen;replace Of:=Lq.size);(replace cX:=X4.cell;replace fX:=X4.frozen;replace zX:=X4.size);refine(n7 T t (gK id p).key _ Lv o hd.1 sz).mono ?_;rintro e v5 ⟨rfl,t',OE,tb,tn,kx⟩;(have LI:=Lq.ko kx ρi);(have TP:=Oi.ko kx ρi);(have X5:=X4.ko kx ρi);(have JP:KO fp w v5:=JJ.trans kx ρ1);(replace N6:=LI.cell;replace N9:=LI.frozen;replace Of:=LI.size);(replace cX:=X5.cell;replace fX:=X5.frozen;replace zX:=X5.size);clear kx))
 all_goals
  go_wp2;go_ret;refine⟨rfl,fp,⟨T,M,t',dH id L,LI,OE,TP,by rw[tb];exact AT.ord_del _ _ o hd.1,by rw[tb];exact hd.2,λj=>?_,jL ok,⟨fb.1,fb.2.1,fb.2.2.1,λx hx=>fb.2.2.2 x (tn x hx)⟩,λx hx=>ZB (lt x hx) JP.size⟩,λx hx=>.inl hx,JP⟩;rw[jb,Nr.out];unfold aO;split<;>rfl
theorem Eu (B:Nat)(m:TM)(fp:Nat->Prop)(id:Int)(ids:List Int)(w:ϖ)(H:aQ 211 w B m fp)(hi:∀j,m j≠none->j ∈ ids)(hz:ids.length<=1000000):Calls Ψ 223 #[B,ι ε id] w λe w'=>∃er,e=ϰ (ι ε er)/\eZ 211 w w' B (aO m id none) fp:=by
 cases hm:m id with
 | none=>refine(wR B m fp id w H hm).mono λe w' ⟨h1,h2⟩=>⟨6,h1,fp,?_,λx hx=>.inl hx,(KO.of_below (F:=λ_=>False) h2).mono λ_ _ f=>f.elim⟩;exact ηV
 | some p=>exact(tW B m fp id p ids w H hm hi hz).mono λe w' ⟨h1,h2⟩=>⟨0,h1,h2⟩
theorem eZ.trans {ty:TypeId} {w v u:ϖ} {B:Nat} {m1 m2:TM} {fp Yg:Nat->Prop} (h:aQ ty v B m1 Yg/\(∀x,Yg x->fp x\/w.heap.size<=x)/\KO fp w v)(k:eZ ty v u B m2 Yg):eZ ty w u B m2 fp:=by
 obtain⟨h1,h2,h3⟩:=h;obtain⟨NF,k1,k2,k3⟩:=k;refine⟨NF,k1,λx hx=>?_,h3.trans k3 (λx hx h=>(h2 x h).elim id (λq=>by omega))⟩;rcases k2 x hx with q|q
 ·exact h2 x q
 ·exact .inr (ZK h3.size q)
theorem zj (B:Nat)(m:TM)(fp:Nat->Prop)(id a b:Int)(ids:List Int)(w:ϖ)(H:aQ 209 w B m fp)(ha:aq a)(hb:aq b)(hi:∀j,m j≠none->j ∈ ids)(hz:ids.length<=1000000):Calls Ψ 155 #[B,ι ε id,a,b] w λe w'=>e=ϰ Kz/\eZ 209 w w' B (aO m id (some (a,b))) fp:=by
 have Kf:m.ok:=by obtain⟨T,M,t,L,_,_,_,_,_,_,h,_⟩:=H;exact h
 have nB:∃cs,ah w B cs 209:=by obtain⟨T,M,t,L,B',_⟩:=H;exact⟨_,B'⟩
 go_in;go_wp2_with fail;refine(tU B m fp id ids _ H hi hz).mono ?_;rintro e v2 ⟨er,rfl,Yg,H2,Ki,k2⟩;clear H nB;have H3:=H2;obtain⟨T,M,t,L,B',T',M',o,fi,hl,ok,fb,lt⟩:=H2;refine η3 ?_;intro YI RR YJ RS SK zT zM zB zb;have hn:aO m id none id=none:=by unfold aO;rw[ZP rfl]
 have hI:=dq.ins fi (p:=(a,b)) hn;have sz:t.many<=1073741824:=by have:=dq.count fi o (ids:=ids) (λj hj=>hi j (λe=>hj (by unfold aO;split<;>simp_all)));simp only[PT.many];omega
 have Nr:=ag hl;clear hl;have Rr:=B'.r;go_upto_region 5 with (fail);refine jf (θ4 (Ks Yg v2) B' T' M') (λv=>ah v v2 (f7 a id b id) 335) ρB ?_;clear Rr;rintro v3 X3 ⟨JI,KK,LG,NE⟩ Rr;have Ss:=X3.r;have nXM:v2≠M:=ρa;go_upto_region 5 with (fail);refine bK (θ5 JI KK LG NE X3) ?_;clear Rr Ss;rintro v4 ⟨JJ,Lq,Lv,Oi,X4⟩ Rr;have Nj:=ae Lq;have qX:=ae X4;refine Ws 6 (gC ?_);refine bB (θ5 Lq Lv Oi X4 JJ) ?_;clear Rr;rintro v5 ⟨LI,OE,TP,X5,JP⟩ Rr;clear Nj qX Lq Lv Oi X4;obtain⟨v6,Kk,UB,kx,zx⟩:=bv Ω Θ TP id (φ (f7 a id b id));go_upto_region 6 with (fail);have O7:=LI.ko kx ρj;have Pa:=OE.ko kx ρj σF;have X6:=X5.ko kx ρj;have JT:KO Yg v2 v6:=JP.trans kx σy;replace Rr:=θ2 O7.r X6.r;clear kx Kk;refine bK (θ5 JT O7 Pa UB X6) ?_;clear Rr;rintro v7 ⟨J7,Pk,UH,SQ,X7⟩ Rr;have Nj:=ae Pk;have qX:=ae X7;refine Ws 8 (gC ?_);refine bB (θ5 Pk UH SQ X7 J7) ?_;clear Rr;rintro v8 ⟨QN,Rt,PS,X8,Ka⟩ Rr;clear Nj qX Pk UH SQ X7;go_wp2_with fail;refine Zc (θ5 Ka QN Rt PS X8) ?_;rintro v9 ⟨Km,PR,Sk,PU,X9⟩;refine(n8 T t (gK id (a,b)) _ Sk o hI.1 sz).mono ?_;rintro e N0 ⟨rfl,t',Ol,tb,tn,kx⟩;have Wo:=PR.ko kx ρi;have MK:=PU.ko kx ρi;have TV:=X9.ko kx ρi;have Kg:KO Yg v2 N0:=Km.trans kx ρ1;replace Rr:=θ2 Wo.r TV.r;clear kx;go_wp2;go_ret;refine⟨rfl,eZ.trans ⟨H3,Ki,k2⟩ ⟨λx=>Yg x\/(v2<=x/\x<N0),⟨T,M,t',_,Wo,Ol,MK,by rw[tb];exact AT.ord_ins _ _ o hI.1,by rw[tb];exact hI.2.ext (λj=>by unfold aO;split<;>simp_all),λj=>?_,?_,⟨.inl fb.1,.inl fb.2.1,.inl fb.2.2.1,λx hx=>(tn x hx).elim (λq=>.inl (fb.2.2.2 x q)) (λq=>.inr ⟨ZK Km.size q,Ol.2.1.lt x hx⟩)⟩,λx hx=>hx.elim (λq=>ZB (lt x q) Kg.size) (λq=>q.2)⟩,λx hx=>hx.imp (λq=>q) (λq=>q.1),Kg⟩⟩
 ·exact ηk
 ·exact po (m:=m) (λj p hj=>Kf j p hj) ⟨ha,hb⟩
theorem zl (B:Nat)(m:TM)(fp:Nat->Prop)(id a b:Int)(ids:List Int)(w:ϖ)(H:aQ 211 w B m fp)(ha:aq a)(hb:aq b)(hi:∀j,m j≠none->j ∈ ids)(hz:ids.length<=1000000)(hm:m id=none):Calls Ψ 213 #[B,ι ε id,a,b] w λe w'=>e=ϰ Kz/\eZ 211 w w' B (aO m id (some (a,b))) fp:=by
 obtain⟨T,M,t,L,B',T',M',o,fi,hl,ok,fb,lt⟩:=H;refine η3 ?_;intro YI RR YJ RS SK zT zM zB zb;have lM:=λ(v:ϖ) (h:aB v M L)=>(am Ω Θ h id (z:=φ (bJ ⟨⟨0,0⟩,⟨0,0⟩⟩)) ρm).1;rw[hl,hm] at lM;simp only[Option.map_none,Option.getD_none,Option.isSome_none] at lM;have hI:=dq.ins fi (p:=(a,b)) hm;have sz:t.many<=1073741824:=τe;have Nr:=ag hl;clear hl;have Rr:=B'.r;go_in;go_upto_region 4 with (fail);refine jf (θ4 (Ks fp w) B' T' M') (λv=>ah v w (f7 a id b id) 335) ρB ?_;clear Rr;rintro v1 X1 ⟨I',Lj,Lu,NP⟩ Rr;have Ss:=X1.r;replace lM:=lM _ NP;have nXM:w≠M:=ρa;go_upto_region 7 with (fail);refine bK (θ5 I' Lj Lu NP X1) ?_;clear Rr Ss;rintro v2 ⟨JE,KX,Mk,Nl,X2⟩ Rr;clear lM;go_upto_region 7 with (fail);refine bK (θ5 JE KX Mk Nl X2) ?_;clear Rr;rintro v3 ⟨JI,KK,LG,NE,X3⟩ Rr;have Nj:=ae KK;have qX:=ae X3;refine Ws 6 (gC ?_);refine bB (θ5 KK LG NE X3 JI) ?_;clear Rr;rintro v4 ⟨Lq,Lv,Oi,X4,JJ⟩ Rr;clear Nj qX KK LG NE X3;obtain⟨v5,Kk,TP,kx,zx⟩:=bv Ω Θ Oi id (φ (f7 a id b id));go_upto_region 8 with (fail);have LI:=Lq.ko kx ρj;have OE:=Lv.ko kx ρj σF;have X5:=X4.ko kx ρj;have JP:KO fp w v5:=JJ.trans kx σy;replace Rr:=θ2 LI.r X5.r;clear kx Kk;refine bK (θ5 JP LI OE TP X5) ?_;clear Rr;rintro v6 ⟨JT,O7,Pa,UB,X6⟩ Rr;have Nj:=ae O7;have qX:=ae X6;refine Ws 8 (gC ?_);refine bB (θ5 O7 Pa UB X6 JT) ?_;clear Rr;rintro v7 ⟨Pk,UH,SQ,X7,J7⟩ Rr;clear Nj qX O7 Pa UB X6;go_wp2_with fail;refine Zc (θ5 J7 Pk UH SQ X7) ?_;rintro v8 ⟨Ka,QN,Rt,PS,X8⟩;refine(n8 T t (gK id (a,b)) _ Rt o hI.1 sz).mono ?_;rintro e v9 ⟨rfl,t',Sk,tb,tn,kx⟩;have PR:=QN.ko kx ρi;have PU:=PS.ko kx ρi;have X9:=X8.ko kx ρi;have Km:KO fp w v9:=Ka.trans kx ρ1;replace Rr:=θ2 PR.r X9.r;clear kx;go_wp2;go_ret;refine⟨rfl,λx=>fp x\/(w<=x/\x<v9),⟨T,M,t',_,PR,Sk,PU,by rw[tb];exact AT.ord_ins _ _ o hI.1,by rw[tb];exact hI.2.ext (λj=>by unfold aO;split<;>simp_all),λj=>?_,po ok ⟨ha,hb⟩,⟨.inl fb.1,.inl fb.2.1,.inl fb.2.2.1,λx hx=>(tn x hx).elim (λq=>.inl (fb.2.2.2 x q)) (λq=>.inr ⟨ZK Ka.size q,Sk.2.1.lt x hx⟩)⟩,λx hx=>hx.elim (λq=>ZB (lt x q) Km.size) (λq=>q.2)⟩,λx hx=>hx.imp (λq=>q) (λq=>q.1),Km⟩
 ·exact ηk
theorem wS (B:Nat)(m:TM)(fp:Nat->Prop)(id a b:Int)(ids:List Int)(w:ϖ)(H:aQ 211 w B m fp)(ha:aq a)(hb:aq b)(hi:∀j,m j≠none->j ∈ ids)(hz:ids.length<=1000000)(p:Int × Int)(hm:m id=some p):Calls Ψ 213 #[B,ι ε id,a,b] w λe w'=>e=ϰ Kz/\eZ 211 w w' B (aO m id (some (a,b))) fp:=by
 obtain⟨T,M,t,L,B',T',M',o,fi,hl,ok,fb,lt⟩:=H;refine η3 ?_;intro YI RR YJ RS SK zT zM zB zb;have lM:=λ(v:ϖ) (h:aB v M L)=>(am Ω Θ h id (z:=φ (bJ ⟨⟨0,0⟩,⟨0,0⟩⟩)) ρm).1;rw[hl,hm] at lM;simp only[Option.map_some,Option.getD_some,Option.isSome_some] at lM;have hd:=dq.del fi o hm;have o1:=AT.ord_del _ _ o hd.1;have hn:aO m id none id=none:=by unfold aO;rw[ZP rfl]
 have hI:=dq.ins hd.2 (p:=(a,b)) hn;have sz:t.many<=1073741824:=τe;have sz1:(t.bare.del (gK id p).key).many<=1073741824:=by have:=AT.many_del _ _ o hd.1;simp only[PT.many] at sz;omega
 have Nr:=ag hl;clear hl;have Rr:=B'.r;go_in;go_upto_region 4 with (fail);refine jf (θ4 (Ks fp w) B' T' M') (λv=>ah v w (f7 a id b id) 335) ρB ?_;clear Rr;rintro v1 X1 ⟨I',Lj,Lu,NP⟩ Rr;have Ss:=X1.r;replace lM:=lM _ NP;have nXM:w≠M:=ρa;go_upto_region 6 with (fail);refine jf (θ5 I' Lj Lu NP X1) (λv=>ah v v1 (bJ (gK id p)) 335) ρB ?_;clear Rr Ss;rintro v2 Y2 ⟨JE,KX,Mk,Nl,X2⟩ Rr;have Ss:=Y2.r;have Nj:=ae KX;have qX:=ae X2;have qY:=ae Y2;refine Ws 6 (gC ?_);refine bB (θ6 KX Mk Nl X2 Y2 JE) ?_;clear Rr Ss;rintro v3 ⟨KK,LG,NE,X3,Y3,JI⟩ Rr;clear Nj qX qY KX Mk Nl X2 Y2;clear lM;go_wp2_with fail;refine Zc (θ6 JI KK LG NE X3 Y3) ?_;rintro v4 ⟨JJ,Lq,Lv,Oi,X4,Y4⟩;refine(n7 T t (gK id p).key _ Lv o hd.1 sz).mono ?_;rintro e v5 ⟨rfl,t1,OE,tb1,tn1,kx⟩;have LI:=Lq.ko kx ρi;have TP:=Oi.ko kx ρi;have X5:=X4.ko kx ρi;have JP:KO fp w v5:=JJ.trans kx ρ1;replace Rr:=θ2 LI.r X5.r;clear kx;have nbM1:∀x ∈ t1.bs,x≠M:=λx hx=>RS x (tn1 x hx);have nbB1:∀x ∈ t1.bs,x≠B:=λx hx=>SK x (tn1 x hx);have zb1:∀x ∈ t1.bs,x<w:=λx hx=>zb x (tn1 x hx);have fb1:=And.intro fb.1 (And.intro fb.2.1 (And.intro fb.2.2.1 (λx hx=>fb.2.2.2 x (tn1 x hx))));clear RS SK zb fb;have RS:=nbM1;have SK:=nbB1;have zb:=zb1;have fb:=fb1;have o1':AT.Ord t1.bare:=by rw[tb1];exact o1
 have hI':(∀y ∈ t1.bare.items,y.key≠(gK id (a,b)).key)/\dq (aO (aO m id none) id (some (a,b))) (t1.bare.ins (gK id (a,b))):=by rw[tb1];exact hI
 have Wm:t1.many<=1073741824:=by simp only[PT.many];rw[tb1];exact sz1
 go_upto_region 7 with (fail);refine bK (θ5 JP LI OE TP X5) ?_;clear Rr;rintro v6 ⟨JT,O7,Pa,UB,X6⟩ Rr;have Nj:=ae O7;have qX:=ae X6;refine Ws 6 (gC ?_);refine bB (θ5 O7 Pa UB X6 JT) ?_;clear Rr;rintro v7 ⟨Pk,UH,SQ,X7,J7⟩ Rr;clear Nj qX O7 Pa UB X6;obtain⟨v8,Kk,PS,kx,zx⟩:=bv Ω Θ SQ id (φ (f7 a id b id));go_upto_region 8 with (fail);have QN:=Pk.ko kx ρj;have Rt:=UH.ko kx ρj σF;have X8:=X7.ko kx ρj;have Ka:KO fp w v8:=J7.trans kx σy;replace Rr:=θ2 QN.r X8.r;clear kx Kk;refine bK (θ5 Ka QN Rt PS X8) ?_;clear Rr;rintro v9 ⟨Km,PR,Sk,PU,X9⟩ Rr;have Nj:=ae PR;have qX:=ae X9;refine Ws 8 (gC ?_);refine bB (θ5 PR Sk PU X9 Km) ?_;clear Rr;rintro N0 ⟨Wo,Ol,MK,TV,Kg⟩ Rr;clear Nj qX PR Sk PU X9;go_wp2_with fail;refine Zc (θ5 Kg Wo Ol MK TV) ?_;rintro LD ⟨KE,B'11,MN,KY,UM⟩;refine(n8 T t1 (gK id (a,b)) _ MN o1' hI'.1 Wm).mono ?_;rintro e Oe ⟨rfl,t',Mp,tb,tn,kx⟩;have B'12:=B'11.ko kx ρi;have Lk:=KY.ko kx ρi;have NR:=UM.ko kx ρi;have Kl:KO fp w Oe:=KE.trans kx ρ1;replace Rr:=θ2 B'12.r NR.r;clear kx;go_wp2;go_ret;refine⟨rfl,λx=>fp x\/(w<=x/\x<Oe),⟨T,M,t',_,B'12,Mp,Lk,by rw[tb];exact AT.ord_ins _ _ o1' hI'.1,by rw[tb];exact hI'.2.ext (λj=>by unfold aO;split<;>simp_all),λj=>?_,po ok ⟨ha,hb⟩,⟨.inl fb.1,.inl fb.2.1,.inl fb.2.2.1,λx hx=>(tn x hx).elim (λq=>.inl (fb.2.2.2 x q)) (λq=>.inr ⟨ZK KE.size q,Mp.2.1.lt x hx⟩)⟩,λx hx=>hx.elim (λq=>ZB (lt x q) Kl.size) (λq=>q.2)⟩,λx hx=>hx.imp (λq=>q) (λq=>q.1),Kl⟩
 ·exact ηk
theorem Gn (B:Nat)(m:TM)(fp:Nat->Prop)(id a b:Int)(ids:List Int)(w:ϖ)(H:aQ 211 w B m fp)(ha:aq a)(hb:aq b)(hi:∀j,m j≠none->j ∈ ids)(hz:ids.length<=1000000):Calls Ψ 213 #[B,ι ε id,a,b] w λe w'=>e=ϰ Kz/\eZ 211 w w' B (aO m id (some (a,b))) fp:=by
 cases hm:m id with
 | none=>exact zl B m fp id a b ids w H ha hb hi hz hm
 | some p=>exact wS B m fp id a b ids w H ha hb hi hz p hm
theorem Ex (B:Nat)(m:TM)(fp:Nat->Prop)(now p:Int)(w:ϖ)(H:aQ 209 w B m fp)(hp:min now Mb=p):Calls Ψ 215 #[B,now] w λe w'=>∃id ok,e=ϰ (χ #[ι ε id,β ok])/\un m p id ok/\Below w w w':=by
 obtain⟨T,M,t,L,B',T',M',o,fi,hl,ok,fb,lt⟩:=H;have hq:=yj fi o p;obtain⟨f,ef⟩:=Nq (t.bare.bestTo p);rw[ef] at hq;have Hq:=ag hq;have Ef:=ag ef;have hv:(now<=Mb/\p=now)\/(¬now<=Mb/\p=Mb):=ρa;clear hq ef hp hl fi ok fb lt o M';obtain⟨g,eg⟩:=Nq (f.getD ⟨⟨0,0⟩,⟨0,0⟩⟩);obtain⟨b,eb⟩:=Nq f.isSome;have cBel:∀v,bh v T t->CB 228 #[T,p] v (χ #[φ (bJ g),β b]):=λv h=>by have:=xf T t p f v h Ef.out;rw[eg,eb] at this;exact this
 have HG:=ag (show g.key.id=(f.getD ⟨⟨0,0⟩,⟨0,0⟩⟩).key.id by rw[eg]);have HB:=ag (show b=f.isSome from eb.symm);clear eg eb;have Rr:=B'.r;rcases hv with ⟨hv,rfl⟩|⟨hv,rfl⟩
 all_goals
  go_in;go_wp2_with fail;refine(cBel _ T').mono ?_;rintro e w1 ⟨rfl,JL⟩;go_wp2;go_ret2;exact⟨g.key.id,b,rfl,by rw[HG.out,HB.out];exact Hq.out,JL.trans (Below.mono ρE JL.size)⟩
theorem Ey (B:Nat)(m:TM)(fp:Nat->Prop)(now p:Int)(w:ϖ)(H:aQ 211 w B m fp)(hp:min now Mb=p):Calls Ψ 216 #[B,now] w λe w'=>∃id ok,e=ϰ (χ #[ι ε id,β ok])/\m8 m p id ok/\Below w w w':=by
 obtain⟨T,M,t,L,B',T',M',o,fi,hl,ok,fb,lt⟩:=H;have hq:=yk fi o p;have hv:(now<=Mb/\p=now)\/(¬now<=Mb/\p=Mb):=ρa;have O:=ag o;clear hp hl fi ok fb lt o M';cases ef:t.bare.firstAt p with
 | none=>
 rw[ef] at hq;have Hq:=ag hq;clear hq;have hh:t.bare.hasAt p=false:=by
  have:=AT.firstAt_spec t.bare p O.out;rw[ef] at this;rcases e:t.bare.hasAt p with _|_
  ·rfl
  ·obtain⟨y,hy,hy2⟩:=(AT.hasAt_iff t.bare p).1 e;have:=this y hy;omega
 have Hh:=ag hh;clear hh;have cF:∀v,bh v T t->CB 258 #[T,p] v (χ #[φ (f7 0 0 0 0),dK]):=λv h=>vm T t p v h Hh.out;clear ef;have Rr:=B'.r;rcases hv with ⟨hv,rfl⟩|⟨hv,rfl⟩
 all_goals
  go_in;go_wp2_with fail;refine(cF _ T').mono ?_;rintro e w1 ⟨rfl,JL⟩;go_wp2;go_ret2;exact⟨0,false,rfl,Hq.out,JL.trans (Below.mono ρE JL.size)⟩
 | some x=>
 rw[ef] at hq;have Hq:=ag hq;have Ef:=ag ef;clear hq;have cF:∀v,bh v T t->CB 258 #[T,p] v (χ #[φ (bJ x),fK]):=λv h=>sB T t p x v h O.out Ef.out;clear ef;have Ss:=B'.r;rcases hv with ⟨hv,rfl⟩|⟨hv,rfl⟩
 all_goals
  go_in;go_wp2_with fail;refine(cF _ T').mono ?_;rintro e w1 ⟨rfl,JL⟩;go_wp2;go_ret2;exact⟨x.key.id,true,rfl,Hq.out,JL.trans (Below.mono ρE JL.size)⟩
theorem Gj (B:Nat)(m:TM)(fp:Nat->Prop)(w:ϖ)(H:aQ 209 w B m fp):Calls Ψ 227 #[B] w λe w'=>∃n:Nat,e=ϰ (ι ε n)/\(n=0↔∀j,m j=none)/\w=w':=by
 obtain⟨T,M,t,L,B',T',M',o,fi,hl,ok,fb,lt⟩:=H;have hn:L.length=0↔∀j,m j=none:=ξI
 have HN:=ag hn;have ll:=aU Ω M';clear hn hl fi ok fb lt o;have Rr:=B'.r;go_in;go_wp2;go_ret;exact⟨_,rfl,HN.out,rfl⟩
theorem CL (B:Nat)(m:TM)(fp:Nat->Prop)(w:ϖ)(H:aQ 211 w B m fp):Calls Ψ 224 #[B] w λe w'=>∃n:Nat,e=ϰ (ι ε n)/\(n=0↔∀j,m j=none)/\w=w':=by
 obtain⟨T,M,t,L,B',T',M',o,fi,hl,ok,fb,lt⟩:=H;have hn:L.length=0↔∀j,m j=none:=ξI
 have HN:=ag hn;have ll:=aU Ω M';clear hn hl fi ok fb lt o;have Rr:=B'.r;go_in;go_wp2;go_ret;exact⟨_,rfl,HN.out,rfl⟩
theorem Gm (B:Nat)(m:TM)(fp:Nat->Prop)(w:ϖ)(H:aQ 209 w B m fp):Calls Ψ 171 #[B] w λe w'=>∃v:Int,e=ϰ v/\eY m Mc v/\Below w w w':=by
 have H0:=H;obtain⟨T,M,t,L,B',T',M',o,fi,hl,ok,fb,lt⟩:=H;have O:=ag o;have FI:=ag fi;have OK:=ag ok;clear hl fi fb lt o M' ok;have Rr:=B'.r;go_in;go_wp2_with fail;refine(Gj B m fp _ H0).mono ?_;rintro e u ⟨n,rfl,hn,rfl⟩;by_cases h0:n=0
 ·exact ηj
 ·have JX:¬∀j,m j=none:=λh=>h0 (hn.2 h);have d0:((n:Int)==0)=false:=ρ6;obtain⟨bb,l,i,r,rfl⟩:∃bb l i r,t=PT.node bb l i r:=by
   cases t with
   | nil=>exact az ((dq.nil FI.out).1 rfl) JX
   | node bb l i r=>exact⟨bb,l,i,r,rfl⟩
  have hq:=vR FI.out O.out Mc;obtain⟨f,ef⟩:=Nq (l.bare.first i);rw[ef] at hq;obtain⟨v,ev⟩:=Nq (min f.key.pos Mc);rw[ev] at hq;have hv:(f.key.pos<=Mc/\v=f.key.pos)\/(¬f.key.pos<=Mc/\v=Mc):=ρa;have Ef:=ag ef;have Hq:=ag hq;clear ef hq ev hn h0 JX;rcases hv with ⟨hv,rfl⟩|⟨hv,rfl⟩
  all_goals
   go_wp2_with fail;refine(lD T bb l r i f _ T' Ef.out).mono ?_;rintro e w1 ⟨rfl,JL⟩;go_wp2;go_ret;exact⟨_,rfl,Hq.out,JL.trans (Below.mono ρE JL.size)⟩
theorem Iy (B:Nat)(m:TM)(fp:Nat->Prop)(w:ϖ)(H:aQ 211 w B m fp):Calls Ψ 172 #[B] w λe w'=>∃v:Int,e=ϰ v/\io m Mc v/\Below w w w':=by
 have H0:=H;obtain⟨T,M,t,L,B',T',M',o,fi,hl,ok,fb,lt⟩:=H;have O:=ag o;have FI:=ag fi;have OK:=ag ok;clear hl fi fb lt o M' ok;have Rr:=B'.r;go_in;go_wp2_with fail;refine(CL B m fp _ H0).mono ?_;rintro e u ⟨n,rfl,hn,rfl⟩;by_cases h0:n=0
 ·exact ηj
 ·have JX:∃j,m j≠none:=by
   rcases Classical.em (∃j,m j≠none) with h|h
   ·exact h
   ·exact az (hn.2 (λj=>by rcases e:m j with _|p;rfl;exact az ⟨j,by rw[e];simp⟩ h)) h0
  have d0:((n:Int)==0)=false:=ρ6;obtain⟨f,ef⟩:=vx FI.out O.out OK.out JX;have hq:=vS FI.out O.out OK.out Mc f ef;obtain⟨v,ev⟩:=Nq (min f.val.pos Mc);rw[ev] at hq;have hv:(f.val.pos<=Mc/\v=f.val.pos)\/(¬f.val.pos<=Mc/\v=Mc):=ρa;have Ef:=ag ef;have Hq:=ag hq;clear ef hq ev hn h0 JX;rcases hv with ⟨hv,rfl⟩|⟨hv,rfl⟩
  all_goals
   go_wp2_with fail;refine(xf T t Ma (some f) _ T' Ef.out).mono ?_;rintro e w1 ⟨rfl,JL⟩;simp only[Option.getD_some,Option.isSome_some];go_wp2;go_ret;exact⟨_,rfl,Hq.out,JL.trans (Below.mono ρE JL.size)⟩
theorem Iz (B:Nat)(m:TM)(fp:Nat->Prop)(w:ϖ)(H:aQ 211 w B m fp):Calls Ψ 156 #[B] w λe w'=>∃v ok,e=ϰ (χ #[ι υ v,β ok])/\iZ m v ok/\Below w w w':=by
 obtain⟨T,M,t,L,B',T',M',o,fi,hl,ok,fb,lt⟩:=H;have O:=ag o;have FI:=ag fi;clear hl fi fb lt o M' ok;have Rr:=B'.r;cases t with
 | nil=>go_in;go_wp2_with fail;refine(vn T _ T').mono ?_;rintro e w1 ⟨rfl,JL⟩;go_wp2;go_ret2;exact⟨_,_,rfl,⟨rfl,(dq.nil FI.out).1 rfl⟩,JL.trans (Below.mono ρE JL.size)⟩
 | node bb l i r=>have hq:=nj FI.out O.out;obtain⟨f,ef⟩:=Nq (l.bare.first i);rw[ef] at hq;have Ef:=ag ef;have Hq:=ag hq;clear ef hq;go_in;go_wp2_with fail;refine(lD T bb l r i f _ T' Ef.out).mono ?_;rintro e w1 ⟨rfl,JL⟩;go_wp2;go_ret2;exact⟨_,_,rfl,Hq.out,JL.trans (Below.mono ρE JL.size)⟩
end Go.Proofs.YtfdlemkplejdnaaGreat
