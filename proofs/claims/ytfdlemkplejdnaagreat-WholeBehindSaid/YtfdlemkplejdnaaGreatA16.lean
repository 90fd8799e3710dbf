/- WholeBehind, part 16. Conditions: none. -/
import Derived.Test.YtfdlemkplejdnaaGreatA11
namespace Go.Proofs.YtfdlemkplejdnaaGreat
open Go.RowKit Go.Sort
open Value renaming int->ι,pointer->ψ,slice->ζ,tuple->χ,agg->φ,map->μ,bool->β
open IntKind renaming u64->υ,i64->ε,u16->ω
open Ending renaming returned->ϰ
open Go.Proofs.Tryz renaming prog->Ψ,underlying3->Θ,underlying147->Δ,underlying152->Γ,underlying202->Φ,underlying39->Ξ,underlying207->Ω
open Go renaming World->ϖ,Value->ϗ
set_option linter.unusedVariables false
set_option linter.unusedSimpArgs false
set_option maxHeartbeats 8000000
set_option maxRecDepth 100000
theorem bj.below {w w':ϖ} {T:Nat} {t:PT} (h:bj w T t)(k:Below w w w'):bj w' T t:=⟨h.1.below k h.1.size,h.2.1.below k,h.2.2⟩
instance {w T t}:Mv (bj w T t) w (λv'=>bj v' T t):=⟨λk h=>bj.below h k⟩
theorem bj.ko {w w':ϖ} {F:Nat->Prop} {T:Nat} {t:PT} (h:bj w T t)(k:KO F w w')(h1:¬F T)(h2:∀b ∈ t.bs,¬F b):bj w' T t:=⟨h.1.ko k h1,h.2.1.ko k h2,h.2.2⟩
theorem aR.ne_map {w:ϖ} {M:Nat} {L:List (Int × ϗ)} (k:aA w M L):∀{t:PT},aR w t->∀x ∈ t.bs,x≠M
 | .nil,_,_,h=>by simp[PT.bs] at h
 | .node b l i r,⟨h,hl,hr⟩,x,hx=>by
  simp only[PT.bs,ZC,ZM] at hx;rcases hx with rfl|hx|hx
  ·exact aB h k
  ·exact hl.ne_map k x hx
  ·exact hr.ne_map k x hx
theorem aR.ne_blk {w:ϖ} {B:Nat} {cs:Array ϗ} {ty:TypeId} (k:ah w B cs ty)(e:372≠ty):∀{t:PT},aR w t->∀x ∈ t.bs,x≠B
 | .nil,_,_,h=>by simp[PT.bs] at h
 | .node b l i r,⟨h,hl,hr⟩,x,hx=>by
  simp only[PT.bs,ZC,ZM] at hx;rcases hx with rfl|hx|hx
  ·exact dV h k e
  ·exact hl.ne_blk k e x hx
  ·exact hr.ne_blk k e x hx
def aQ (ty:TypeId)(w:ϖ)(B:Nat)(m:TM)(fp:Nat->Prop):Prop:=∃(T M:Nat)(t:PT)(L:List (Int × ϗ)),ah w B #[T,.map (some M)] ty/\bj w T t/\aA w M L/\AT.Ord t.bare/\dk m t.bare/\(∀j,lk j L=(m j).map (λp=>Value.agg (bL (gF j p))))/\m.ok/\(fp B/\fp T/\fp M/\∀x ∈ t.bs,fp x)/\(∀x,fp x->x<w.heap.size)
theorem aQ.ko {ty:TypeId} {w w':ϖ} {F fp:Nat->Prop} {B:Nat} {m:TM} (h:aQ ty w B m fp)(k:KO F w w')(hF:∀x,fp x->¬F x):aQ ty w' B m fp:=by obtain⟨T,M,t,L,h1,h2,h3,h4,h5,h6,h7,h8,h9⟩:=h;exact⟨T,M,t,L,h1.ko k (hF _ h8.1),h2.ko k (hF _ h8.2.1) (λb hb=>hF _ (h8.2.2.2 b hb)),h3.ko k (hF _ h8.2.2.1),h4,h5,h6,h7,h8,λx hx=>ZB (h9 x hx) k.size⟩
theorem aQ.below {ty:TypeId} {w w':ϖ} {fp:Nat->Prop} {B:Nat} {m:TM} (h:aQ ty w B m fp)(k:Below w w w'):aQ ty w' B m fp:=h.ko (KO.of_below (F:=λ_=>False) k) (λ_ _ f=>f)
instance {ty w B m fp}:Mv (aQ ty w B m fp) w (λv'=>aQ ty v' B m fp):=⟨λk h=>aQ.below h k⟩
def eZ (ty:TypeId)(w w':ϖ)(B:Nat)(m:TM)(fp:Nat->Prop):Prop:=∃MK,aQ ty w' B m MK/\(∀x,MK x->fp x\/w.heap.size<=x)/\KO fp w w'
theorem FU (w:ϖ):Calls Ψ 103 #[] w λe w'=>e=ϰ w/\bj w' w .nil/\Below w w w':=by go_in;go_wp2;go_ret;exact⟨rfl,⟨show ah _ _ #[Kp] _ from ρB,trivial,trivial,by simp[PT.bs]⟩,ρE⟩
theorem Fk (w:ϖ):Calls Ψ 70 #[] w λe w'=>∃B:Nat,e=ϰ B/\(∃fp,aQ 209 w' B (λ_=>none) fp/\∀x,fp x->w.heap.size<=x)/\Below w w w':=ξu
theorem BK (w:ϖ):Calls Ψ 71 #[] w λe w'=>∃B:Nat,e=ϰ B/\(∃fp,aQ 211 w' B (λ_=>none) fp/\∀x,fp x->w.heap.size<=x)/\Below w w w':=ξu
theorem vM (B:Nat)(m:TM)(fp:Nat->Prop)(id:Int)(w:ϖ)(H:aQ 209 w B m fp)(hm:m id=none):
  CB 208 #[B,ι ε id] w (ι ε 6):=by
 obtain⟨T,M,t,L,B',T',M',o,fi,hl,ok,fb,lt⟩:=H;refine η7 ?_;intro Yt Rb Yu Rc RT zT zM zB zb;refine δy ?_;intro lM;simp only[Option.map_none,Option.getD_none,Option.isSome_none] at lM;have Rr:=B'.r;clear hl fi ok lt fb o zb Rc RT;unfold CB;go_in;go_wp2;go_ret;exact⟨rfl,ρE⟩
theorem sY (B:Nat)(m:TM)(fp:Nat->Prop)(id:Int)(p:Int × Int)(ids:List Int)(w:ϖ)(H:aQ 209 w B m fp)(hm:m id=some p)(hi:∀j,m j≠none->j ∈ ids)(hz:ids.length<=1000000):Calls Ψ 208 #[B,ι ε id] w λe w'=>e=ϰ Kz/\eZ 209 w w' B (aJ m id none) fp:=by
 obtain⟨T,M,t,L,B',T',M',o,fi,hl,ok,fb,lt⟩:=H;refine η7 ?_;intro Yt Rb Yu Rc RT zT zM zB zb;have hd:=dk.del fi o hm;have sz:t.many<=1073741824:=τf;refine δy ?_;intro lM;simp only[Option.map_some,Option.getD_some,Option.isSome_some] at lM;have Ni:=B'.cell;have Nl:=B'.frozen;have Nt:=B'.size;have Lv:=ag hl;clear hl;go_in;go_upto_region 6 with (fail);refine Jw (θ4 (Ks fp w) B' T' M') (λv=>ah v w (bL (gF id p)) 335) ρB ?_;rintro v1 X1 ⟨F',J',Kr,MU⟩;replace Ni:=J'.cell;replace Nl:=J'.frozen;replace Nt:=J'.size;replace cX:=X1.cell;replace fX:=X1.frozen;replace zX:=X1.size;obtain⟨v2,PH,Ml,kx,zx⟩:=gI Ω Θ MU id;have nXM:w≠M:=ρa;clear lM;go_upto_region 7 with (fail);have JU:=J'.ko kx ρj;have KW:=Kr.ko kx ρj σG;have X2:=X1.ko kx ρj;have Iz:KO fp w v2:=F'.trans kx σz;replace Ni:=JU.cell;replace Nl:=JU.frozen;replace Nt:=JU.size;replace cX:=X2.cell;replace fX:=X2.frozen;replace zX:=X2.size;clear kx PH;refine Zw (θ5 Iz JU KW Ml X2) ?_;rintro v3 ⟨ID,JL,KA,MJ,X3⟩;replace Ni:=JL.cell;replace Nl:=JL.frozen;replace Nt:=JL.size;replace cX:=X3.cell;replace fX:=X3.frozen;replace zX:=X3.size;go_region_with (first|(go_at_call 250;refine av v3 (λv=>Below v3 v3 v) (λv=>KO fp w v/\ah v (B) #[T,.map (some M)] 209/\bj v T t/\aA v (M) (dF id L)/\ah v w (bL (gF id p)) 335) ρE (λkx=>⟨ID.step0 kx,ρB,KA.below kx,MJ.below kx,ρB⟩) ?_;rintro v4 ⟨IC,Kj,Kt,Nw,X4⟩;(replace Ni:=Kj.cell;replace Nl:=Kj.frozen;replace Nt:=Kj.size);(replace cX:=X4.cell;replace fX:=X4.frozen;replace zX:=X4.size);refine(nN T t (gF id p).key _ Kt o hd.1 sz).mono ?_;rintro e v5 ⟨rfl,t',NR,tb,tn,kx⟩;(have KI:=Kj.ko kx ρi);(have SY:=Nw.ko kx ρi);(have X5:=X4.ko kx ρi);(have IN:KO fp w v5:=IC.trans kx ρ2);(replace Ni:=KI.cell;replace Nl:=KI.frozen;replace Nt:=KI.size);(replace cX:=X5.cell;replace fX:=X5.frozen;replace zX:=X5.size);clear kx))
 all_goals
  go_wp2;go_ret;refine⟨rfl,fp,⟨T,M,t',dF id L,KI,NR,SY,by rw[tb];exact AT.ord_del _ _ o hd.1,by rw[tb];exact hd.2,λj=>?_,jw ok,⟨fb.1,fb.2.1,fb.2.2.1,λx hx=>fb.2.2.2 x (tn x hx)⟩,λx hx=>ZB (lt x hx) IN.size⟩,λx hx=>.inl hx,IN⟩;rw[i6,Lv.out];unfold aJ;split<;>rfl
theorem sX (B:Nat)(m:TM)(fp:Nat->Prop)(id:Int)(ids:List Int)(w:ϖ)(H:aQ 209 w B m fp)(hi:∀j,m j≠none->j ∈ ids)(hz:ids.length<=1000000):Calls Ψ 208 #[B,ι ε id] w λe w'=>∃er,e=ϰ (ι ε er)/\eZ 209 w w' B (aJ m id none) fp:=by
 cases hm:m id with
 | none=>refine(vM B m fp id w H hm).mono λe w' ⟨h1,h2⟩=>⟨6,h1,fp,?_,λx hx=>.inl hx,(KO.of_below (F:=λ_=>False) h2).mono λ_ _ f=>f.elim⟩;exact ηY
 | some p=>exact(sY B m fp id p ids w H hm hi hz).mono λe w' ⟨h1,h2⟩=>⟨0,h1,h2⟩
theorem vN (B:Nat)(m:TM)(fp:Nat->Prop)(id:Int)(w:ϖ)(H:aQ 211 w B m fp)(hm:m id=none):
  CB 223 #[B,ι ε id] w (ι ε 6):=by
 obtain⟨T,M,t,L,B',T',M',o,fi,hl,ok,fb,lt⟩:=H;refine η7 ?_;intro Yt Rb Yu Rc RT zT zM zB zb;refine δy ?_;intro lM;simp only[Option.map_none,Option.getD_none,Option.isSome_none] at lM;have Rr:=B'.r;clear hl fi ok lt fb o zb Rc RT;unfold CB;go_in;go_wp2;go_ret;exact⟨rfl,ρE⟩
theorem sZ (B:Nat)(m:TM)(fp:Nat->Prop)(id:Int)(p:Int × Int)(ids:List Int)(w:ϖ)(H:aQ 211 w B m fp)(hm:m id=some p)(hi:∀j,m j≠none->j ∈ ids)(hz:ids.length<=1000000):Calls Ψ 223 #[B,ι ε id] w λe w'=>e=ϰ Kz/\eZ 211 w w' B (aJ m id none) fp:=by
 obtain⟨T,M,t,L,B',T',M',o,fi,hl,ok,fb,lt⟩:=H;refine η7 ?_;intro Yt Rb Yu Rc RT zT zM zB zb;have hd:=dk.del fi o hm;have sz:t.many<=1073741824:=τf;refine δy ?_;intro lM;simp only[Option.map_some,Option.getD_some,Option.isSome_some] at lM;have Ni:=B'.cell;have Nl:=B'.frozen;have Nt:=B'.size;have Lv:=ag hl;clear hl;go_in;go_upto_region 6 with (fail);refine Jw (θ4 (Ks fp w) B' T' M') (λv=>ah v w (bL (gF id p)) 335) ρB ?_;rintro v1 X1 ⟨F',J',Kr,MU⟩;replace Ni:=J'.cell;replace Nl:=J'.frozen;replace Nt:=J'.size;replace cX:=X1.cell;replace fX:=X1.frozen;replace zX:=X1.size;obtain⟨v2,PH,Ml,kx,zx⟩:=gI Ω Θ MU id;have nXM:w≠M:=ρa;clear lM;go_upto_region 7 with (fail);have JU:=J'.ko kx ρj;have KW:=Kr.ko kx ρj σG;have X2:=X1.ko kx ρj;have Iz:KO fp w v2:=F'.trans kx σz;replace Ni:=JU.cell;replace Nl:=JU.frozen;replace Nt:=JU.size;replace cX:=X2.cell;replace fX:=X2.frozen;replace zX:=X2.size;clear kx PH;refine Zw (θ5 Iz JU KW Ml X2) ?_;rintro v3 ⟨ID,JL,KA,MJ,X3⟩;replace Ni:=JL.cell;replace Nl:=JL.frozen;replace Nt:=JL.size;replace cX:=X3.cell;replace fX:=X3.frozen;replace zX:=X3.size;go_region_with (first|(go_at_call 250;refine av v3 (λv=>Below v3 v3 v) (λv=>KO fp w v/\ah v (B) #[T,.map (some M)] 211/\bj v T t/\aA v (M) (dF id L)/\ah v w (bL (gF id p)) 335) ρE (λkx=>⟨ID.step0 kx,ρB,KA.below kx,MJ.below kx,ρB⟩) ?_;rintro v4 ⟨IC,Kj,Kt,Nw,X4⟩;(replace Ni:=Kj.cell;replace Nl:=Kj.frozen;replace Nt:=Kj.size);(replace cX:=X4.cell;replace fX:=X4.frozen;replace zX:=X4.size);refine(nN T t (gF id p).key _ Kt o hd.1 sz).mono ?_;rintro e v5 ⟨rfl,t',NR,tb,tn,kx⟩;(have KI:=Kj.ko kx ρi);(have SY:=Nw.ko kx ρi);(have X5:=X4.ko kx ρi);(have IN:KO fp w v5:=IC.trans kx ρ2);(replace Ni:=KI.cell;replace Nl:=KI.frozen;replace Nt:=KI.size);(replace cX:=X5.cell;replace fX:=X5.frozen;replace zX:=X5.size);clear kx))
 all_goals
  go_wp2;go_ret;refine⟨rfl,fp,⟨T,M,t',dF id L,KI,NR,SY,by rw[tb];exact AT.ord_del _ _ o hd.1,by rw[tb];exact hd.2,λj=>?_,jw ok,⟨fb.1,fb.2.1,fb.2.2.1,λx hx=>fb.2.2.2 x (tn x hx)⟩,λx hx=>ZB (lt x hx) IN.size⟩,λx hx=>.inl hx,IN⟩;rw[i6,Lv.out];unfold aJ;split<;>rfl
theorem Dl (B:Nat)(m:TM)(fp:Nat->Prop)(id:Int)(ids:List Int)(w:ϖ)(H:aQ 211 w B m fp)(hi:∀j,m j≠none->j ∈ ids)(hz:ids.length<=1000000):Calls Ψ 223 #[B,ι ε id] w λe w'=>∃er,e=ϰ (ι ε er)/\eZ 211 w w' B (aJ m id none) fp:=by
 cases hm:m id with
 | none=>refine(vN B m fp id w H hm).mono λe w' ⟨h1,h2⟩=>⟨6,h1,fp,?_,λx hx=>.inl hx,(KO.of_below (F:=λ_=>False) h2).mono λ_ _ f=>f.elim⟩;exact ηY
 | some p=>exact(sZ B m fp id p ids w H hm hi hz).mono λe w' ⟨h1,h2⟩=>⟨0,h1,h2⟩
theorem eZ.trans {ty:TypeId} {w v u:ϖ} {B:Nat} {m1 m2:TM} {fp XE:Nat->Prop} (h:aQ ty v B m1 XE/\(∀x,XE x->fp x\/w.heap.size<=x)/\KO fp w v)(k:eZ ty v u B m2 XE):eZ ty w u B m2 fp:=by
 obtain⟨h1,h2,h3⟩:=h;obtain⟨MK,k1,k2,k3⟩:=k;refine⟨MK,k1,λx hx=>?_,h3.trans k3 (λx hx h=>(h2 x h).elim id (λq=>by omega))⟩;rcases k2 x hx with q|q
 ·exact h2 x q
 ·exact .inr (ZK h3.size q)
theorem xZ (B:Nat)(m:TM)(fp:Nat->Prop)(id a b:Int)(ids:List Int)(w:ϖ)(H:aQ 209 w B m fp)(ha:aq a)(hb:aq b)(hi:∀j,m j≠none->j ∈ ids)(hz:ids.length<=1000000):Calls Ψ 155 #[B,ι ε id,a,b] w λe w'=>e=ϰ Kz/\eZ 209 w w' B (aJ m id (some (a,b))) fp:=by
 have Jo:m.ok:=by obtain⟨T,M,t,L,_,_,_,_,_,_,h,_⟩:=H;exact h
 have nB:∃cs,ah w B cs 209:=by obtain⟨T,M,t,L,B',_⟩:=H;exact⟨_,B'⟩
 go_in;go_wp2_with fail;refine(sX B m fp id ids _ H hi hz).mono ?_;rintro e v2 ⟨er,rfl,XE,H2,Ja,k2⟩;clear H nB;have H3:=H2;obtain⟨T,M,t,L,B',T',M',o,fi,hl,ok,fb,lt⟩:=H2;refine η7 ?_;intro Yt Rb Yu Rc RT zT zM zB zb;have hn:aJ m id none id=none:=by unfold aJ;rw[ZP rfl]
 have hI:=dk.ins fi (p:=(a,b)) hn;have sz:t.many<=1073741824:=by have:=dk.count fi o (ids:=ids) (λj hj=>hi j (λe=>hj (by unfold aJ;split<;>simp_all)));simp only[PT.many];omega
 have Lv:=ag hl;clear hl;have Rr:=B'.r;go_upto_region 5 with (fail);refine jf (θ4 (Ks XE v2) B' T' M') (λv=>ah v v2 (fU a id b id) 335) ρB ?_;clear Rr;rintro v3 X3 ⟨ID,JL,KA,MJ⟩ Rr;have Ss:=X3.r;have nXM:v2≠M:=ρa;go_upto_region 5 with (fail);refine bS (θ5 ID JL KA MJ X3) ?_;clear Rr Ss;rintro v4 ⟨IC,Kj,Kt,Nw,X4⟩ Rr;have Mi:=af Kj;have qX:=af X4;refine Ws 6 (gw ?_);refine bF (θ5 Kj Kt Nw X4 IC) ?_;clear Rr;rintro v5 ⟨KI,NR,SY,X5,IN⟩ Rr;clear Mi qX Kj Kt Nw X4;obtain⟨v6,Js,TJ,kx,zx⟩:=bz Ω Θ SY id (φ (fU a id b id));go_upto_region 6 with (fail);have Og:=KI.ko kx ρj;have Oi:=NR.ko kx ρj σG;have X6:=X5.ko kx ρj;have IQ:KO XE v2 v6:=IN.trans kx σz;replace Rr:=θ2 Og.r X6.r;clear kx Js;refine bS (θ5 IQ Og Oi TJ X6) ?_;clear Rr;rintro v7 ⟨I8,Oo,TS,RZ,X7⟩ Rr;have Mi:=af Oo;have qX:=af X7;refine Ws 8 (gw ?_);refine bF (θ5 Oo TS RZ X7 I8) ?_;clear Rr;rintro v8 ⟨Qb,QC,OW,X8,Je⟩ Rr;clear Mi qX Oo TS RZ X7;go_wp2_with fail;refine Zc (θ5 Je Qb QC OW X8) ?_;rintro v9 ⟨Jl,OV,Ry,OY,X9⟩;refine(nO T t (gF id (a,b)) _ Ry o hI.1 sz).mono ?_;rintro e Lj ⟨rfl,t',Ny,tb,tn,kx⟩;have Vy:=OV.ko kx ρi;have Ll:=OY.ko kx ρi;have QG:=X9.ko kx ρi;have I7:KO XE v2 Lj:=Jl.trans kx ρ2;replace Rr:=θ2 Vy.r QG.r;clear kx;go_wp2;go_ret;refine⟨rfl,eZ.trans ⟨H3,Ja,k2⟩ ⟨λx=>XE x\/(v2<=x/\x<Lj),⟨T,M,t',_,Vy,Ny,Ll,by rw[tb];exact AT.ord_ins _ _ o hI.1,by rw[tb];exact hI.2.ext (λj=>by unfold aJ;split<;>simp_all),λj=>?_,?_,⟨.inl fb.1,.inl fb.2.1,.inl fb.2.2.1,λx hx=>(tn x hx).elim (λq=>.inl (fb.2.2.2 x q)) (λq=>.inr ⟨ZK Jl.size q,Ny.2.1.lt x hx⟩)⟩,λx hx=>hx.elim (λq=>ZB (lt x q) I7.size) (λq=>q.2)⟩,λx hx=>hx.imp (λq=>q) (λq=>q.1),I7⟩⟩
 ·exact ηl
 ·exact oZ (m:=m) (λj p hj=>Jo j p hj) ⟨ha,hb⟩
theorem yb (B:Nat)(m:TM)(fp:Nat->Prop)(id a b:Int)(ids:List Int)(w:ϖ)(H:aQ 211 w B m fp)(ha:aq a)(hb:aq b)(hi:∀j,m j≠none->j ∈ ids)(hz:ids.length<=1000000)(hm:m id=none):Calls Ψ 213 #[B,ι ε id,a,b] w λe w'=>e=ϰ Kz/\eZ 211 w w' B (aJ m id (some (a,b))) fp:=by
 obtain⟨T,M,t,L,B',T',M',o,fi,hl,ok,fb,lt⟩:=H;refine η7 ?_;intro Yt Rb Yu Rc RT zT zM zB zb;have lM:=λ(v:ϖ) (h:aA v M L)=>(am Ω Θ h id (z:=φ (bL ⟨⟨0,0⟩,⟨0,0⟩⟩)) ρm).1;rw[hl,hm] at lM;simp only[Option.map_none,Option.getD_none,Option.isSome_none] at lM;have hI:=dk.ins fi (p:=(a,b)) hm;have sz:t.many<=1073741824:=τf;have Lv:=ag hl;clear hl;have Rr:=B'.r;go_in;go_upto_region 4 with (fail);refine jf (θ4 (Ks fp w) B' T' M') (λv=>ah v w (fU a id b id) 335) ρB ?_;clear Rr;rintro v1 X1 ⟨F',J',Kr,MU⟩ Rr;have Ss:=X1.r;replace lM:=lM _ MU;have nXM:w≠M:=ρa;go_upto_region 7 with (fail);refine bS (θ5 F' J' Kr MU X1) ?_;clear Rr Ss;rintro v2 ⟨Iz,JU,KW,Ml,X2⟩ Rr;clear lM;go_upto_region 7 with (fail);refine bS (θ5 Iz JU KW Ml X2) ?_;clear Rr;rintro v3 ⟨ID,JL,KA,MJ,X3⟩ Rr;have Mi:=af JL;have qX:=af X3;refine Ws 6 (gw ?_);refine bF (θ5 JL KA MJ X3 ID) ?_;clear Rr;rintro v4 ⟨Kj,Kt,Nw,X4,IC⟩ Rr;clear Mi qX JL KA MJ X3;obtain⟨v5,Js,SY,kx,zx⟩:=bz Ω Θ Nw id (φ (fU a id b id));go_upto_region 8 with (fail);have KI:=Kj.ko kx ρj;have NR:=Kt.ko kx ρj σG;have X5:=X4.ko kx ρj;have IN:KO fp w v5:=IC.trans kx σz;replace Rr:=θ2 KI.r X5.r;clear kx Js;refine bS (θ5 IN KI NR SY X5) ?_;clear Rr;rintro v6 ⟨IQ,Og,Oi,TJ,X6⟩ Rr;have Mi:=af Og;have qX:=af X6;refine Ws 8 (gw ?_);refine bF (θ5 Og Oi TJ X6 IQ) ?_;clear Rr;rintro v7 ⟨Oo,TS,RZ,X7,I8⟩ Rr;clear Mi qX Og Oi TJ X6;go_wp2_with fail;refine Zc (θ5 I8 Oo TS RZ X7) ?_;rintro v8 ⟨Je,Qb,QC,OW,X8⟩;refine(nO T t (gF id (a,b)) _ QC o hI.1 sz).mono ?_;rintro e v9 ⟨rfl,t',Ry,tb,tn,kx⟩;have OV:=Qb.ko kx ρi;have OY:=OW.ko kx ρi;have X9:=X8.ko kx ρi;have Jl:KO fp w v9:=Je.trans kx ρ2;replace Rr:=θ2 OV.r X9.r;clear kx;go_wp2;go_ret;refine⟨rfl,λx=>fp x\/(w<=x/\x<v9),⟨T,M,t',_,OV,Ry,OY,by rw[tb];exact AT.ord_ins _ _ o hI.1,by rw[tb];exact hI.2.ext (λj=>by unfold aJ;split<;>simp_all),λj=>?_,oZ ok ⟨ha,hb⟩,⟨.inl fb.1,.inl fb.2.1,.inl fb.2.2.1,λx hx=>(tn x hx).elim (λq=>.inl (fb.2.2.2 x q)) (λq=>.inr ⟨ZK Je.size q,Ry.2.1.lt x hx⟩)⟩,λx hx=>hx.elim (λq=>ZB (lt x q) Jl.size) (λq=>q.2)⟩,λx hx=>hx.imp (λq=>q) (λq=>q.1),Jl⟩
 ·exact ηl
theorem vO (B:Nat)(m:TM)(fp:Nat->Prop)(id a b:Int)(ids:List Int)(w:ϖ)(H:aQ 211 w B m fp)(ha:aq a)(hb:aq b)(hi:∀j,m j≠none->j ∈ ids)(hz:ids.length<=1000000)(p:Int × Int)(hm:m id=some p):Calls Ψ 213 #[B,ι ε id,a,b] w λe w'=>e=ϰ Kz/\eZ 211 w w' B (aJ m id (some (a,b))) fp:=by
 obtain⟨T,M,t,L,B',T',M',o,fi,hl,ok,fb,lt⟩:=H;refine η7 ?_;intro Yt Rb Yu Rc RT zT zM zB zb;have lM:=λ(v:ϖ) (h:aA v M L)=>(am Ω Θ h id (z:=φ (bL ⟨⟨0,0⟩,⟨0,0⟩⟩)) ρm).1;rw[hl,hm] at lM;simp only[Option.map_some,Option.getD_some,Option.isSome_some] at lM;have hd:=dk.del fi o hm;have o1:=AT.ord_del _ _ o hd.1;have hn:aJ m id none id=none:=by unfold aJ;rw[ZP rfl]
 have hI:=dk.ins hd.2 (p:=(a,b)) hn;have sz:t.many<=1073741824:=τf;have sz1:(t.bare.del (gF id p).key).many<=1073741824:=by have:=AT.many_del _ _ o hd.1;simp only[PT.many] at sz;omega
 have Lv:=ag hl;clear hl;have Rr:=B'.r;go_in;go_upto_region 4 with (fail);refine jf (θ4 (Ks fp w) B' T' M') (λv=>ah v w (fU a id b id) 335) ρB ?_;clear Rr;rintro v1 X1 ⟨F',J',Kr,MU⟩ Rr;have Ss:=X1.r;replace lM:=lM _ MU;have nXM:w≠M:=ρa;go_upto_region 6 with (fail);refine jf (θ5 F' J' Kr MU X1) (λv=>ah v v1 (bL (gF id p)) 335) ρB ?_;clear Rr Ss;rintro v2 Y2 ⟨Iz,JU,KW,Ml,X2⟩ Rr;have Ss:=Y2.r;have Mi:=af JU;have qX:=af X2;have qY:=af Y2;refine Ws 6 (gw ?_);refine bF (θ6 JU KW Ml X2 Y2 Iz) ?_;clear Rr Ss;rintro v3 ⟨JL,KA,MJ,X3,Y3,ID⟩ Rr;clear Mi qX qY JU KW Ml X2 Y2;clear lM;go_wp2_with fail;refine Zc (θ6 ID JL KA MJ X3 Y3) ?_;rintro v4 ⟨IC,Kj,Kt,Nw,X4,Y4⟩;refine(nN T t (gF id p).key _ Kt o hd.1 sz).mono ?_;rintro e v5 ⟨rfl,t1,NR,tb1,tn1,kx⟩;have KI:=Kj.ko kx ρi;have SY:=Nw.ko kx ρi;have X5:=X4.ko kx ρi;have IN:KO fp w v5:=IC.trans kx ρ2;replace Rr:=θ2 KI.r X5.r;clear kx;have nbM1:∀x ∈ t1.bs,x≠M:=λx hx=>Rc x (tn1 x hx);have nbB1:∀x ∈ t1.bs,x≠B:=λx hx=>RT x (tn1 x hx);have zb1:∀x ∈ t1.bs,x<w:=λx hx=>zb x (tn1 x hx);have fb1:=And.intro fb.1 (And.intro fb.2.1 (And.intro fb.2.2.1 (λx hx=>fb.2.2.2 x (tn1 x hx))));clear Rc RT zb fb;have Rc:=nbM1;have RT:=nbB1;have zb:=zb1;have fb:=fb1;have o1':AT.Ord t1.bare:=by rw[tb1];exact o1
 have hI':(∀y ∈ t1.bare.items,y.key≠(gF id (a,b)).key)/\dk (aJ (aJ m id none) id (some (a,b))) (t1.bare.ins (gF id (a,b))):=by rw[tb1];exact hI
 have Vx:t1.many<=1073741824:=by simp only[PT.many];rw[tb1];exact sz1
 go_upto_region 7 with (fail);refine bS (θ5 IN KI NR SY X5) ?_;clear Rr;rintro v6 ⟨IQ,Og,Oi,TJ,X6⟩ Rr;have Mi:=af Og;have qX:=af X6;refine Ws 6 (gw ?_);refine bF (θ5 Og Oi TJ X6 IQ) ?_;clear Rr;rintro v7 ⟨Oo,TS,RZ,X7,I8⟩ Rr;clear Mi qX Og Oi TJ X6;obtain⟨v8,Js,OW,kx,zx⟩:=bz Ω Θ RZ id (φ (fU a id b id));go_upto_region 8 with (fail);have Qb:=Oo.ko kx ρj;have QC:=TS.ko kx ρj σG;have X8:=X7.ko kx ρj;have Je:KO fp w v8:=I8.trans kx σz;replace Rr:=θ2 Qb.r X8.r;clear kx Js;refine bS (θ5 Je Qb QC OW X8) ?_;clear Rr;rintro v9 ⟨Jl,OV,Ry,OY,X9⟩ Rr;have Mi:=af OV;have qX:=af X9;refine Ws 8 (gw ?_);refine bF (θ5 OV Ry OY X9 Jl) ?_;clear Rr;rintro Lj ⟨Vy,Ny,Ll,QG,I7⟩ Rr;clear Mi qX OV Ry OY X9;go_wp2_with fail;refine Zc (θ5 I7 Vy Ny Ll QG) ?_;rintro JR ⟨Jn,B'11,Lo,JV,Th⟩;refine(nO T t1 (gF id (a,b)) _ Lo o1' hI'.1 Vx).mono ?_;rintro e Mj ⟨rfl,t',Lc,tb,tn,kx⟩;have B'12:=B'11.ko kx ρi;have Kc:=JV.ko kx ρi;have MW:=Th.ko kx ρi;have Jk:KO fp w Mj:=Jn.trans kx ρ2;replace Rr:=θ2 B'12.r MW.r;clear kx;go_wp2;go_ret;refine⟨rfl,λx=>fp x\/(w<=x/\x<Mj),⟨T,M,t',_,B'12,Lc,Kc,by rw[tb];exact AT.ord_ins _ _ o1' hI'.1,by rw[tb];exact hI'.2.ext (λj=>by unfold aJ;split<;>simp_all),λj=>?_,oZ ok ⟨ha,hb⟩,⟨.inl fb.1,.inl fb.2.1,.inl fb.2.2.1,λx hx=>(tn x hx).elim (λq=>.inl (fb.2.2.2 x q)) (λq=>.inr ⟨ZK Jn.size q,Lc.2.1.lt x hx⟩)⟩,λx hx=>hx.elim (λq=>ZB (lt x q) Jk.size) (λq=>q.2)⟩,λx hx=>hx.imp (λq=>q) (λq=>q.1),Jk⟩
 ·exact ηl
theorem Fo (B:Nat)(m:TM)(fp:Nat->Prop)(id a b:Int)(ids:List Int)(w:ϖ)(H:aQ 211 w B m fp)(ha:aq a)(hb:aq b)(hi:∀j,m j≠none->j ∈ ids)(hz:ids.length<=1000000):Calls Ψ 213 #[B,ι ε id,a,b] w λe w'=>e=ϰ Kz/\eZ 211 w w' B (aJ m id (some (a,b))) fp:=by
 cases hm:m id with
 | none=>exact yb B m fp id a b ids w H ha hb hi hz hm
 | some p=>exact vO B m fp id a b ids w H ha hb hi hz p hm
theorem Do (B:Nat)(m:TM)(fp:Nat->Prop)(now p:Int)(w:ϖ)(H:aQ 209 w B m fp)(hp:min now Mb=p):Calls Ψ 215 #[B,now] w λe w'=>∃id ok,e=ϰ (χ #[ι ε id,β ok])/\tG m p id ok/\Below w w w':=by
 obtain⟨T,M,t,L,B',T',M',o,fi,hl,ok,fb,lt⟩:=H;have hq:=xb fi o p;obtain⟨f,ef⟩:=Nq (t.bare.bestTo p);rw[ef] at hq;have Hq:=ag hq;have Ef:=ag ef;have hv:(now<=Mb/\p=now)\/(¬now<=Mb/\p=Mb):=ρa;clear hq ef hp hl fi ok fb lt o M';obtain⟨g,eg⟩:=Nq (f.getD ⟨⟨0,0⟩,⟨0,0⟩⟩);obtain⟨b,eb⟩:=Nq f.isSome;have cBel:∀v,bj v T t->CB 228 #[T,p] v (χ #[φ (bL g),β b]):=λv h=>by have:=vY T t p f v h Ef.out;rw[eg,eb] at this;exact this
 have HG:=ag (show g.key.id=(f.getD ⟨⟨0,0⟩,⟨0,0⟩⟩).key.id by rw[eg]);have HB:=ag (show b=f.isSome from eb.symm);clear eg eb;have Rr:=B'.r;rcases hv with ⟨hv,rfl⟩|⟨hv,rfl⟩
 all_goals
  go_in;go_wp2_with fail;refine(cBel _ T').mono ?_;rintro e w1 ⟨rfl,IG⟩;go_wp2;go_ret2;exact⟨g.key.id,b,rfl,by rw[HG.out,HB.out];exact Hq.out,IG.trans (Below.mono ρE IG.size)⟩
theorem Dp (B:Nat)(m:TM)(fp:Nat->Prop)(now p:Int)(w:ϖ)(H:aQ 211 w B m fp)(hp:min now Mb=p):Calls Ψ 216 #[B,now] w λe w'=>∃id ok,e=ϰ (χ #[ι ε id,β ok])/\jW m p id ok/\Below w w w':=by
 obtain⟨T,M,t,L,B',T',M',o,fi,hl,ok,fb,lt⟩:=H;have hq:=xc fi o p;have hv:(now<=Mb/\p=now)\/(¬now<=Mb/\p=Mb):=ρa;have O:=ag o;clear hp hl fi ok fb lt o M';cases ef:t.bare.firstAt p with
 | none=>
 rw[ef] at hq;have Hq:=ag hq;clear hq;have hh:t.bare.hasAt p=false:=by
  have:=AT.firstAt_spec t.bare p O.out;rw[ef] at this;rcases e:t.bare.hasAt p with _|_
  ·rfl
  ·obtain⟨y,hy,hy2⟩:=(AT.hasAt_iff t.bare p).1 e;have:=this y hy;omega
 have Hh:=ag hh;clear hh;have cF:∀v,bj v T t->CB 258 #[T,p] v (χ #[φ (fU 0 0 0 0),dI]):=λv h=>uv T t p v h Hh.out;clear ef;have Rr:=B'.r;rcases hv with ⟨hv,rfl⟩|⟨hv,rfl⟩
 all_goals
  go_in;go_wp2_with fail;refine(cF _ T').mono ?_;rintro e w1 ⟨rfl,IG⟩;go_wp2;go_ret2;exact⟨0,false,rfl,Hq.out,IG.trans (Below.mono ρE IG.size)⟩
 | some x=>
 rw[ef] at hq;have Hq:=ag hq;have Ef:=ag ef;clear hq;have cF:∀v,bj v T t->CB 258 #[T,p] v (χ #[φ (bL x),fJ]):=λv h=>ry T t p x v h O.out Ef.out;clear ef;have Ss:=B'.r;rcases hv with ⟨hv,rfl⟩|⟨hv,rfl⟩
 all_goals
  go_in;go_wp2_with fail;refine(cF _ T').mono ?_;rintro e w1 ⟨rfl,IG⟩;go_wp2;go_ret2;exact⟨x.key.id,true,rfl,Hq.out,IG.trans (Below.mono ρE IG.size)⟩
theorem Fi (B:Nat)(m:TM)(fp:Nat->Prop)(w:ϖ)(H:aQ 209 w B m fp):Calls Ψ 227 #[B] w λe w'=>∃n:Nat,e=ϰ (ι ε n)/\(n=0↔∀j,m j=none)/\w=w':=by
 obtain⟨T,M,t,L,B',T',M',o,fi,hl,ok,fb,lt⟩:=H;have hn:L.length=0↔∀j,m j=none:=ξK
 have HN:=ag hn;have ll:=aS Ω M';clear hn hl fi ok fb lt o;have Rr:=B'.r;go_in;go_wp2;go_ret;exact⟨_,rfl,HN.out,rfl⟩
theorem BJ (B:Nat)(m:TM)(fp:Nat->Prop)(w:ϖ)(H:aQ 211 w B m fp):Calls Ψ 224 #[B] w λe w'=>∃n:Nat,e=ϰ (ι ε n)/\(n=0↔∀j,m j=none)/\w=w':=by
 obtain⟨T,M,t,L,B',T',M',o,fi,hl,ok,fb,lt⟩:=H;have hn:L.length=0↔∀j,m j=none:=ξK
 have HN:=ag hn;have ll:=aS Ω M';clear hn hl fi ok fb lt o;have Rr:=B'.r;go_in;go_wp2;go_ret;exact⟨_,rfl,HN.out,rfl⟩
theorem Fl (B:Nat)(m:TM)(fp:Nat->Prop)(w:ϖ)(H:aQ 209 w B m fp):Calls Ψ 171 #[B] w λe w'=>∃v:Int,e=ϰ v/\ib m Mc v/\Below w w w':=by
 have H0:=H;obtain⟨T,M,t,L,B',T',M',o,fi,hl,ok,fb,lt⟩:=H;have O:=ag o;have FI:=ag fi;have OK:=ag ok;clear hl fi fb lt o M' ok;have Rr:=B'.r;go_in;go_wp2_with fail;refine(Fi B m fp _ H0).mono ?_;rintro e u ⟨n,rfl,hn,rfl⟩;by_cases h0:n=0
 ·exact ηk
 ·have IX:¬∀j,m j=none:=λh=>h0 (hn.2 h);have d0:((n:Int)==0)=false:=ρ7;obtain⟨bb,l,i,r,rfl⟩:∃bb l i r,t=PT.node bb l i r:=by
   cases t with
   | nil=>exact ax ((dk.nil FI.out).1 rfl) IX
   | node bb l i r=>exact⟨bb,l,i,r,rfl⟩
  have hq:=uS FI.out O.out Mc;obtain⟨f,ef⟩:=Nq (l.bare.first i);rw[ef] at hq;obtain⟨v,ev⟩:=Nq (min f.key.pos Mc);rw[ev] at hq;have hv:(f.key.pos<=Mc/\v=f.key.pos)\/(¬f.key.pos<=Mc/\v=Mc):=ρa;have Ef:=ag ef;have Hq:=ag hq;clear ef hq ev hn h0 IX;rcases hv with ⟨hv,rfl⟩|⟨hv,rfl⟩
  all_goals
   go_wp2_with fail;refine(kV T bb l r i f _ T' Ef.out).mono ?_;rintro e w1 ⟨rfl,IG⟩;go_wp2;go_ret;exact⟨_,rfl,Hq.out,IG.trans (Below.mono ρE IG.size)⟩
theorem GD (B:Nat)(m:TM)(fp:Nat->Prop)(w:ϖ)(H:aQ 211 w B m fp):Calls Ψ 172 #[B] w λe w'=>∃v:Int,e=ϰ v/\ic m Mc v/\Below w w w':=by
 have H0:=H;obtain⟨T,M,t,L,B',T',M',o,fi,hl,ok,fb,lt⟩:=H;have O:=ag o;have FI:=ag fi;have OK:=ag ok;clear hl fi fb lt o M' ok;have Rr:=B'.r;go_in;go_wp2_with fail;refine(BJ B m fp _ H0).mono ?_;rintro e u ⟨n,rfl,hn,rfl⟩;by_cases h0:n=0
 ·exact ηk
 ·have IX:∃j,m j≠none:=by
   rcases Classical.em (∃j,m j≠none) with h|h
   ·exact h
   ·exact ax (hn.2 (λj=>by rcases e:m j with _|p;rfl;exact ax ⟨j,by rw[e];simp⟩ h)) h0
  have d0:((n:Int)==0)=false:=ρ7;obtain⟨f,ef⟩:=uD FI.out O.out OK.out IX;have hq:=uT FI.out O.out OK.out Mc f ef;obtain⟨v,ev⟩:=Nq (min f.val.pos Mc);rw[ev] at hq;have hv:(f.val.pos<=Mc/\v=f.val.pos)\/(¬f.val.pos<=Mc/\v=Mc):=ρa;have Ef:=ag ef;have Hq:=ag hq;clear ef hq ev hn h0 IX;rcases hv with ⟨hv,rfl⟩|⟨hv,rfl⟩
  all_goals
   go_wp2_with fail;refine(vY T t Ma (some f) _ T' Ef.out).mono ?_;rintro e w1 ⟨rfl,IG⟩;simp only[Option.getD_some,Option.isSome_some];go_wp2;go_ret;exact⟨_,rfl,Hq.out,IG.trans (Below.mono ρE IG.size)⟩
theorem GF (B:Nat)(m:TM)(fp:Nat->Prop)(w:ϖ)(H:aQ 211 w B m fp):Calls Ψ 156 #[B] w λe w'=>∃v ok,e=ϰ (χ #[ι υ v,β ok])/\iT m v ok/\Below w w w':=by
 obtain⟨T,M,t,L,B',T',M',o,fi,hl,ok,fb,lt⟩:=H;have O:=ag o;have FI:=ag fi;clear hl fi fb lt o M' ok;have Rr:=B'.r;cases t with
 | nil=>go_in;go_wp2_with fail;refine(uw T _ T').mono ?_;rintro e w1 ⟨rfl,IG⟩;go_wp2;go_ret2;exact⟨_,_,rfl,⟨rfl,(dk.nil FI.out).1 rfl⟩,IG.trans (Below.mono ρE IG.size)⟩
 | node bb l i r=>have hq:=mW FI.out O.out;obtain⟨f,ef⟩:=Nq (l.bare.first i);rw[ef] at hq;have Ef:=ag ef;have Hq:=ag hq;clear ef hq;go_in;go_wp2_with fail;refine(kV T bb l r i f _ T' Ef.out).mono ?_;rintro e w1 ⟨rfl,IG⟩;go_wp2;go_ret2;exact⟨_,_,rfl,Hq.out,IG.trans (Below.mono ρE IG.size)⟩
end Go.Proofs.YtfdlemkplejdnaaGreat
