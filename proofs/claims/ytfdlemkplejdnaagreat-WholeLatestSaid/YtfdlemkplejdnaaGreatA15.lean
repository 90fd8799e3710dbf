/- WholeLatest, part 15. Conditions: none. -/
import Derived.Test.YtfdlemkplejdnaaGreatA11
namespace Go.Proofs.YtfdlemkplejdnaaGreat
open Go.RowKit Go.Sort
open Value renaming int->ι,pointer->ψ,slice->ζ,tuple->χ,agg->φ,map->μ,bool->β
open IntKind renaming u64->υ,i64->ε,u16->ω
open Ending renaming returned->ϰ
open Go.Proofs.Tryz renaming prog->Ψ,underlying3->Θ,underlying147->Δ,underlying152->Γ,underlying202->Φ,underlying39->Ξ,underlying207->Ω
open Go renaming World->ϖ,Value->ϗ
set_option linter.unusedVariables false
set_option linter.unusedSimpArgs false
set_option maxHeartbeats 8000000
set_option maxRecDepth 100000
theorem aZ.below {w w':ϖ} {T:Nat} {t:PT} (h:aZ w T t)(k:Below w w w'):aZ w' T t:=⟨h.1.below k h.1.size,h.2.1.below k,h.2.2⟩
instance {w T t}:Mv (aZ w T t) w (λv'=>aZ v' T t):=⟨λk h=>aZ.below h k⟩
theorem aZ.ko {w w':ϖ} {F:Nat->Prop} {T:Nat} {t:PT} (h:aZ w T t)(k:KO F w w')(h1:¬F T)(h2:∀b ∈ t.bs,¬F b):aZ w' T t:=⟨h.1.ko k h1,h.2.1.ko k h2,h.2.2⟩
theorem aR.ne_map {w:ϖ} {M:Nat} {L:List (Int × ϗ)} (k:aB w M L):∀{t:PT},aR w t->∀x ∈ t.bs,x≠M
 | .nil,_,_,h=>by simp[PT.bs] at h
 | .node b l i r,⟨h,hl,hr⟩,x,hx=>by
  simp only[PT.bs,qC,qM] at hx;rcases hx with rfl|hx|hx
  ·exact aC h k
  ·exact hl.ne_map k x hx
  ·exact hr.ne_map k x hx
theorem aR.ne_blk {w:ϖ} {B:Nat} {cs:Array ϗ} {ty:TypeId} (k:ah w B cs ty)(e:372≠ty):∀{t:PT},aR w t->∀x ∈ t.bs,x≠B
 | .nil,_,_,h=>by simp[PT.bs] at h
 | .node b l i r,⟨h,hl,hr⟩,x,hx=>by
  simp only[PT.bs,qC,qM] at hx;rcases hx with rfl|hx|hx
  ·exact eq h k e
  ·exact hl.ne_blk k e x hx
  ·exact hr.ne_blk k e x hx
def aQ (ty:TypeId)(w:ϖ)(B:Nat)(m:TM)(fp:Nat->Prop):Prop:=∃(T M:Nat)(t:PT)(L:List (Int × ϗ)),ah w B #[T,.map (some M)] ty/\aZ w T t/\aB w M L/\AT.Ord t.bare/\dz m t.bare/\(∀j,lk j L=(m j).map (λp=>Value.agg (bL (gP j p))))/\m.ok/\(fp B/\fp T/\fp M/\∀x ∈ t.bs,fp x)/\(∀x,fp x->x<w.heap.size)
theorem aQ.ko {ty:TypeId} {w w':ϖ} {F fp:Nat->Prop} {B:Nat} {m:TM} (h:aQ ty w B m fp)(k:KO F w w')(hF:∀x,fp x->¬F x):aQ ty w' B m fp:=by obtain⟨T,M,t,L,h1,h2,h3,h4,h5,h6,h7,h8,h9⟩:=h;exact⟨T,M,t,L,h1.ko k (hF _ h8.1),h2.ko k (hF _ h8.2.1) (λb hb=>hF _ (h8.2.2.2 b hb)),h3.ko k (hF _ h8.2.2.1),h4,h5,h6,h7,h8,λx hx=>qB (h9 x hx) k.size⟩
theorem aQ.below {ty:TypeId} {w w':ϖ} {fp:Nat->Prop} {B:Nat} {m:TM} (h:aQ ty w B m fp)(k:Below w w w'):aQ ty w' B m fp:=h.ko (KO.of_below (F:=λ_=>False) k) (λ_ _ f=>f)
instance {ty w B m fp}:Mv (aQ ty w B m fp) w (λv'=>aQ ty v' B m fp):=⟨λk h=>aQ.below h k⟩
def fg (ty:TypeId)(w w':ϖ)(B:Nat)(m:TM)(fp:Nat->Prop):Prop:=∃Oj,aQ ty w' B m Oj/\(∀x,Oj x->fp x\/w.heap.size<=x)/\KO fp w w'
theorem Is (w:ϖ):Calls Ψ 103 #[] w λe w'=>e=ϰ w/\aZ w' w .nil/\Below w w w':=by go_in;go_wp2;go_ret;exact⟨rfl,⟨show ah _ _ #[Kp] _ from ρB,trivial,trivial,by simp[PT.bs]⟩,ρE⟩
theorem GX (w:ϖ):Calls Ψ 70 #[] w λe w'=>∃B:Nat,e=ϰ B/\(∃fp,aQ 209 w' B (λ_=>none) fp/\∀x,fp x->w.heap.size<=x)/\Below w w w':=ξt
theorem Ds (w:ϖ):Calls Ψ 71 #[] w λe w'=>∃B:Nat,e=ϰ B/\(∃fp,aQ 211 w' B (λ_=>none) fp/\∀x,fp x->w.heap.size<=x)/\Below w w w':=ξt
theorem xy (B:Nat)(m:TM)(fp:Nat->Prop)(id:Int)(w:ϖ)(H:aQ 209 w B m fp)(hm:m id=none):
  CB 208 #[B,ι ε id] w (ι ε 6):=by
 obtain⟨T,M,t,L,B',T',M',o,fi,hl,ok,fb,lt⟩:=H;refine η5 ?_;intro Zl SM Zm SN TD zT zM zB zb;refine δx ?_;intro lM;simp only[Option.map_none,Option.getD_none,Option.isSome_none] at lM;have Rr:=B'.r;clear hl fi ok lt fb o zb SN TD;unfold CB;go_in;go_wp2;go_ret;exact⟨rfl,ρE⟩
theorem uA (B:Nat)(m:TM)(fp:Nat->Prop)(id:Int)(p:Int × Int)(ids:List Int)(w:ϖ)(H:aQ 209 w B m fp)(hm:m id=some p)(hi:∀j,m j≠none->j ∈ ids)(hz:ids.length<=1000000):Calls Ψ 208 #[B,ι ε id] w λe w'=>e=ϰ Kz/\fg 209 w w' B (aP m id none) fp:=by
 obtain⟨T,M,t,L,B',T',M',o,fi,hl,ok,fb,lt⟩:=H;refine η5 ?_;intro Zl SM Zm SN TD zT zM zB zb;have hd:=dz.del fi o hm;have sz:t.many<=1073741824:=τc;refine δx ?_;intro lM;simp only[Option.map_some,Option.getD_some,Option.isSome_some] at lM;have OO:=B'.cell;have OR:=B'.frozen;have OZ:=B'.size;have Nk:=ag hl;clear hl;go_in;go_upto_region 6 with (fail);refine Jw (θ4 (Ks fp w) B' T' M') (λv=>ah v w (bL (gP id p)) 335) ρB ?_;rintro v1 X1 ⟨I',Mm,MD,Ox⟩;replace OO:=Mm.cell;replace OR:=Mm.frozen;replace OZ:=Mm.size;replace cX:=X1.cell;replace fX:=X1.frozen;replace zX:=X1.size;obtain⟨v2,Rp,N5,kx,zx⟩:=gW Ω Θ Ox id;have nXM:w≠M:=ρa;clear lM;go_upto_region 7 with (fail);have LJ:=Mm.ko kx ρj;have Ng:=MD.ko kx ρj σE;have X2:=X1.ko kx ρj;have J':KO fp w v2:=I'.trans kx σx;replace OO:=LJ.cell;replace OR:=LJ.frozen;replace OZ:=LJ.size;replace cX:=X2.cell;replace fX:=X2.frozen;replace zX:=X2.size;clear kx Rp;refine Zw (θ5 J' LJ Ng N5 X2) ?_;rintro v3 ⟨Kk,Lx,MO,Oi,X3⟩;replace OO:=Lx.cell;replace OR:=Lx.frozen;replace OZ:=Lx.size;replace cX:=X3.cell;replace fX:=X3.frozen;replace zX:=X3.size;go_region_with (first|(go_at_call 250;refine av v3 (λv=>Below v3 v3 v) (λv=>KO fp w v/\ah v (B) #[T,.map (some M)] 209/\aZ v T t/\aB v (M) (dL id L)/\ah v w (bL (gP id p)) 335) ρE (λkx=>⟨Kk.step0 kx,ρB,MO.below kx,Oi.below kx,ρB⟩) ?_;rintro v4 ⟨Km,Mt,ME,O8,X4⟩;(replace OO:=Mt.cell;replace OR:=Mt.frozen;replace OZ:=Mt.size);(replace cX:=X4.cell;replace fX:=X4.frozen;replace zX:=X4.size);refine(oV T t (gP id p).key _ ME o hd.1 sz).mono ?_;rintro e v5 ⟨rfl,t',Px,tb,tn,kx⟩;(have MS:=Mt.ko kx ρh);(have UD:=O8.ko kx ρh);(have X5:=X4.ko kx ρh);(have Kw:KO fp w v5:=Km.trans kx ρ1);(replace OO:=MS.cell;replace OR:=MS.frozen;replace OZ:=MS.size);(replace cX:=X5.cell;replace fX:=X5.frozen;replace zX:=X5.size);clear kx))
 all_goals
  go_wp2;go_ret;refine⟨rfl,fp,⟨T,M,t',dL id L,MS,Px,UD,by rw[tb];exact AT.ord_del _ _ o hd.1,by rw[tb];exact hd.2,λj=>?_,jP ok,⟨fb.1,fb.2.1,fb.2.2.1,λx hx=>fb.2.2.2 x (tn x hx)⟩,λx hx=>qB (lt x hx) Kw.size⟩,λx hx=>.inl hx,Kw⟩;rw[jk,Nk.out];unfold aP;split<;>rfl
theorem uz (B:Nat)(m:TM)(fp:Nat->Prop)(id:Int)(ids:List Int)(w:ϖ)(H:aQ 209 w B m fp)(hi:∀j,m j≠none->j ∈ ids)(hz:ids.length<=1000000):Calls Ψ 208 #[B,ι ε id] w λe w'=>∃er,e=ϰ (ι ε er)/\fg 209 w w' B (aP m id none) fp:=by
 cases hm:m id with
 | none=>refine(xy B m fp id w H hm).mono λe w' ⟨h1,h2⟩=>⟨6,h1,fp,?_,λx hx=>.inl hx,(KO.of_below (F:=λ_=>False) h2).mono λ_ _ f=>f.elim⟩;exact ηX
 | some p=>exact(uA B m fp id p ids w H hm hi hz).mono λe w' ⟨h1,h2⟩=>⟨0,h1,h2⟩
theorem xz (B:Nat)(m:TM)(fp:Nat->Prop)(id:Int)(w:ϖ)(H:aQ 211 w B m fp)(hm:m id=none):
  CB 223 #[B,ι ε id] w (ι ε 6):=by
 obtain⟨T,M,t,L,B',T',M',o,fi,hl,ok,fb,lt⟩:=H;refine η5 ?_;intro Zl SM Zm SN TD zT zM zB zb;refine δx ?_;intro lM;simp only[Option.map_none,Option.getD_none,Option.isSome_none] at lM;have Rr:=B'.r;clear hl fi ok lt fb o zb SN TD;unfold CB;go_in;go_wp2;go_ret;exact⟨rfl,ρE⟩
theorem uB (B:Nat)(m:TM)(fp:Nat->Prop)(id:Int)(p:Int × Int)(ids:List Int)(w:ϖ)(H:aQ 211 w B m fp)(hm:m id=some p)(hi:∀j,m j≠none->j ∈ ids)(hz:ids.length<=1000000):Calls Ψ 223 #[B,ι ε id] w λe w'=>e=ϰ Kz/\fg 211 w w' B (aP m id none) fp:=by
 obtain⟨T,M,t,L,B',T',M',o,fi,hl,ok,fb,lt⟩:=H;refine η5 ?_;intro Zl SM Zm SN TD zT zM zB zb;have hd:=dz.del fi o hm;have sz:t.many<=1073741824:=τc;refine δx ?_;intro lM;simp only[Option.map_some,Option.getD_some,Option.isSome_some] at lM;have OO:=B'.cell;have OR:=B'.frozen;have OZ:=B'.size;have Nk:=ag hl;clear hl;go_in;go_upto_region 6 with (fail);refine Jw (θ4 (Ks fp w) B' T' M') (λv=>ah v w (bL (gP id p)) 335) ρB ?_;rintro v1 X1 ⟨I',Mm,MD,Ox⟩;replace OO:=Mm.cell;replace OR:=Mm.frozen;replace OZ:=Mm.size;replace cX:=X1.cell;replace fX:=X1.frozen;replace zX:=X1.size;obtain⟨v2,Rp,N5,kx,zx⟩:=gW Ω Θ Ox id;have nXM:w≠M:=ρa;clear lM;go_upto_region 7 with (fail);have LJ:=Mm.ko kx ρj;have Ng:=MD.ko kx ρj σE;have X2:=X1.ko kx ρj;have J':KO fp w v2:=I'.trans kx σx;replace OO:=LJ.cell;replace OR:=LJ.frozen;replace OZ:=LJ.size;replace cX:=X2.cell;replace fX:=X2.frozen;replace zX:=X2.size;clear kx Rp;refine Zw (θ5 J' LJ Ng N5 X2) ?_;rintro v3 ⟨Kk,Lx,MO,Oi,X3⟩;replace OO:=Lx.cell;replace OR:=Lx.frozen;replace OZ:=Lx.size;replace cX:=X3.cell;replace fX:=X3.frozen;replace zX:=X3.size;go_region_with (first|(go_at_call 250;refine av v3 (λv=>Below v3 v3 v) (λv=>KO fp w v/\ah v (B) #[T,.map (some M)] 211/\aZ v T t/\aB v (M) (dL id L)/\ah v w (bL (gP id p)) 335) ρE (λkx=>⟨Kk.step0 kx,ρB,MO.below kx,Oi.below kx,ρB⟩) ?_;rintro v4 ⟨Km,Mt,ME,O8,X4⟩;(replace OO:=Mt.cell;replace OR:=Mt.frozen;replace OZ:=Mt.size);(replace cX:=X4.cell;replace fX:=X4.frozen;replace zX:=X4.size);refine(oV T t (gP id p).key _ ME o hd.1 sz).mono ?_;rintro e v5 ⟨rfl,t',Px,tb,tn,kx⟩;(have MS:=Mt.ko kx ρh);(have UD:=O8.ko kx ρh);(have X5:=X4.ko kx ρh);(have Kw:KO fp w v5:=Km.trans kx ρ1);(replace OO:=MS.cell;replace OR:=MS.frozen;replace OZ:=MS.size);(replace cX:=X5.cell;replace fX:=X5.frozen;replace zX:=X5.size);clear kx))
 all_goals
  go_wp2;go_ret;refine⟨rfl,fp,⟨T,M,t',dL id L,MS,Px,UD,by rw[tb];exact AT.ord_del _ _ o hd.1,by rw[tb];exact hd.2,λj=>?_,jP ok,⟨fb.1,fb.2.1,fb.2.2.1,λx hx=>fb.2.2.2 x (tn x hx)⟩,λx hx=>qB (lt x hx) Kw.size⟩,λx hx=>.inl hx,Kw⟩;rw[jk,Nk.out];unfold aP;split<;>rfl
theorem Fh (B:Nat)(m:TM)(fp:Nat->Prop)(id:Int)(ids:List Int)(w:ϖ)(H:aQ 211 w B m fp)(hi:∀j,m j≠none->j ∈ ids)(hz:ids.length<=1000000):Calls Ψ 223 #[B,ι ε id] w λe w'=>∃er,e=ϰ (ι ε er)/\fg 211 w w' B (aP m id none) fp:=by
 cases hm:m id with
 | none=>refine(xz B m fp id w H hm).mono λe w' ⟨h1,h2⟩=>⟨6,h1,fp,?_,λx hx=>.inl hx,(KO.of_below (F:=λ_=>False) h2).mono λ_ _ f=>f.elim⟩;exact ηX
 | some p=>exact(uB B m fp id p ids w H hm hi hz).mono λe w' ⟨h1,h2⟩=>⟨0,h1,h2⟩
theorem fg.trans {ty:TypeId} {w v u:ϖ} {B:Nat} {m1 m2:TM} {fp YF:Nat->Prop} (h:aQ ty v B m1 YF/\(∀x,YF x->fp x\/w.heap.size<=x)/\KO fp w v)(k:fg ty v u B m2 YF):fg ty w u B m2 fp:=by
 obtain⟨h1,h2,h3⟩:=h;obtain⟨Oj,k1,k2,k3⟩:=k;refine⟨Oj,k1,λx hx=>?_,h3.trans k3 (λx hx h=>(h2 x h).elim id (λq=>by omega))⟩;rcases k2 x hx with q|q
 ·exact h2 x q
 ·exact .inr (qK h3.size q)
theorem Ao (B:Nat)(m:TM)(fp:Nat->Prop)(id a b:Int)(ids:List Int)(w:ϖ)(H:aQ 209 w B m fp)(ha:an a)(hb:an b)(hi:∀j,m j≠none->j ∈ ids)(hz:ids.length<=1000000):Calls Ψ 155 #[B,ι ε id,a,b] w λe w'=>e=ϰ Kz/\fg 209 w w' B (aP m id (some (a,b))) fp:=by
 have K7:m.ok:=by obtain⟨T,M,t,L,_,_,_,_,_,_,h,_⟩:=H;exact h
 have nB:∃cs,ah w B cs 209:=by obtain⟨T,M,t,L,B',_⟩:=H;exact⟨_,B'⟩
 go_in;go_wp2_with fail;refine(uz B m fp id ids _ H hi hz).mono ?_;rintro e v2 ⟨er,rfl,YF,H2,K6,k2⟩;clear H nB;have H3:=H2;obtain⟨T,M,t,L,B',T',M',o,fi,hl,ok,fb,lt⟩:=H2;refine η5 ?_;intro Zl SM Zm SN TD zT zM zB zb;have hn:aP m id none id=none:=by unfold aP;rw[qP rfl]
 have hI:=dz.ins fi (p:=(a,b)) hn;have sz:t.many<=1073741824:=by have:=dz.count fi o (ids:=ids) (λj hj=>hi j (λe=>hj (by unfold aP;split<;>simp_all)));simp only[PT.many];omega
 have Nk:=ag hl;clear hl;have Rr:=B'.r;go_upto_region 5 with (fail);refine jW (θ4 (Ks YF v2) B' T' M') (λv=>ah v v2 (f9 a id b id) 335) ρB ?_;clear Rr;rintro v3 X3 ⟨Kk,Lx,MO,Oi⟩ Rr;have Ss:=X3.r;have nXM:v2≠M:=ρa;go_upto_region 5 with (fail);refine bR (θ5 Kk Lx MO Oi X3) ?_;clear Rr Ss;rintro v4 ⟨Km,Mt,ME,O8,X4⟩ Rr;have NY:=af Mt;have qX:=af X4;refine Ws 6 (gH ?_);refine bE (θ5 Mt ME O8 X4 Km) ?_;clear Rr;rintro v5 ⟨MS,Px,UD,X5,Kw⟩ Rr;clear NY qX Mt ME O8 X4;obtain⟨v6,Ld,Vo,kx,zx⟩:=bv Ω Θ UD id (φ (f9 a id b id));go_upto_region 6 with (fail);have PU:=MS.ko kx ρj;have PW:=Px.ko kx ρj σE;have X6:=X5.ko kx ρj;have KH:KO YF v2 v6:=Kw.trans kx σx;replace Rr:=θ2 PU.r X6.r;clear kx Ld;refine bR (θ5 KH PU PW Vo X6) ?_;clear Rr;rintro v7 ⟨KV,Qg,Vt,TI,X7⟩ Rr;have NY:=af Qg;have qX:=af X7;refine Ws 8 (gH ?_);refine bE (θ5 Qg Vt TI X7 KV) ?_;clear Rr;rintro v8 ⟨RK,St,QH,X8,KZ⟩ Rr;clear NY qX Qg Vt TI X7;go_wp2_with fail;refine Zc (θ5 KZ RK St QH X8) ?_;rintro v9 ⟨Ll,QG,Ti,QI,X9⟩;refine(oW T t (gP id (a,b)) _ Ti o hI.1 sz).mono ?_;rintro e Ps ⟨rfl,t',Pc,tb,tn,kx⟩;have WV:=QG.ko kx ρh;have ND:=QI.ko kx ρh;have Vy:=X9.ko kx ρh;have Lc:KO YF v2 Ps:=Ll.trans kx ρ1;replace Rr:=θ2 WV.r Vy.r;clear kx;go_wp2;go_ret;refine⟨rfl,fg.trans ⟨H3,K6,k2⟩ ⟨λx=>YF x\/(v2<=x/\x<Ps),⟨T,M,t',_,WV,Pc,ND,by rw[tb];exact AT.ord_ins _ _ o hI.1,by rw[tb];exact hI.2.ext (λj=>by unfold aP;split<;>simp_all),λj=>?_,?_,⟨.inl fb.1,.inl fb.2.1,.inl fb.2.2.1,λx hx=>(tn x hx).elim (λq=>.inl (fb.2.2.2 x q)) (λq=>.inr ⟨qK Ll.size q,Pc.2.1.lt x hx⟩)⟩,λx hx=>hx.elim (λq=>qB (lt x q) Lc.size) (λq=>q.2)⟩,λx hx=>hx.imp (λq=>q) (λq=>q.1),Lc⟩⟩
 ·exact ηm
 ·exact pU (m:=m) (λj p hj=>K7 j p hj) ⟨ha,hb⟩
theorem Ap (B:Nat)(m:TM)(fp:Nat->Prop)(id a b:Int)(ids:List Int)(w:ϖ)(H:aQ 211 w B m fp)(ha:an a)(hb:an b)(hi:∀j,m j≠none->j ∈ ids)(hz:ids.length<=1000000)(hm:m id=none):Calls Ψ 213 #[B,ι ε id,a,b] w λe w'=>e=ϰ Kz/\fg 211 w w' B (aP m id (some (a,b))) fp:=by
 obtain⟨T,M,t,L,B',T',M',o,fi,hl,ok,fb,lt⟩:=H;refine η5 ?_;intro Zl SM Zm SN TD zT zM zB zb;have lM:=λ(v:ϖ) (h:aB v M L)=>(am Ω Θ h id (z:=φ (bL ⟨⟨0,0⟩,⟨0,0⟩⟩)) ρm).1;rw[hl,hm] at lM;simp only[Option.map_none,Option.getD_none,Option.isSome_none] at lM;have hI:=dz.ins fi (p:=(a,b)) hm;have sz:t.many<=1073741824:=τc;have Nk:=ag hl;clear hl;have Rr:=B'.r;go_in;go_upto_region 4 with (fail);refine jW (θ4 (Ks fp w) B' T' M') (λv=>ah v w (f9 a id b id) 335) ρB ?_;clear Rr;rintro v1 X1 ⟨I',Mm,MD,Ox⟩ Rr;have Ss:=X1.r;replace lM:=lM _ Ox;have nXM:w≠M:=ρa;go_upto_region 7 with (fail);refine bR (θ5 I' Mm MD Ox X1) ?_;clear Rr Ss;rintro v2 ⟨J',LJ,Ng,N5,X2⟩ Rr;clear lM;go_upto_region 7 with (fail);refine bR (θ5 J' LJ Ng N5 X2) ?_;clear Rr;rintro v3 ⟨Kk,Lx,MO,Oi,X3⟩ Rr;have NY:=af Lx;have qX:=af X3;refine Ws 6 (gH ?_);refine bE (θ5 Lx MO Oi X3 Kk) ?_;clear Rr;rintro v4 ⟨Mt,ME,O8,X4,Km⟩ Rr;clear NY qX Lx MO Oi X3;obtain⟨v5,Ld,UD,kx,zx⟩:=bv Ω Θ O8 id (φ (f9 a id b id));go_upto_region 8 with (fail);have MS:=Mt.ko kx ρj;have Px:=ME.ko kx ρj σE;have X5:=X4.ko kx ρj;have Kw:KO fp w v5:=Km.trans kx σx;replace Rr:=θ2 MS.r X5.r;clear kx Ld;refine bR (θ5 Kw MS Px UD X5) ?_;clear Rr;rintro v6 ⟨KH,PU,PW,Vo,X6⟩ Rr;have NY:=af PU;have qX:=af X6;refine Ws 8 (gH ?_);refine bE (θ5 PU PW Vo X6 KH) ?_;clear Rr;rintro v7 ⟨Qg,Vt,TI,X7,KV⟩ Rr;clear NY qX PU PW Vo X6;go_wp2_with fail;refine Zc (θ5 KV Qg Vt TI X7) ?_;rintro v8 ⟨KZ,RK,St,QH,X8⟩;refine(oW T t (gP id (a,b)) _ St o hI.1 sz).mono ?_;rintro e v9 ⟨rfl,t',Ti,tb,tn,kx⟩;have QG:=RK.ko kx ρh;have QI:=QH.ko kx ρh;have X9:=X8.ko kx ρh;have Ll:KO fp w v9:=KZ.trans kx ρ1;replace Rr:=θ2 QG.r X9.r;clear kx;go_wp2;go_ret;refine⟨rfl,λx=>fp x\/(w<=x/\x<v9),⟨T,M,t',_,QG,Ti,QI,by rw[tb];exact AT.ord_ins _ _ o hI.1,by rw[tb];exact hI.2.ext (λj=>by unfold aP;split<;>simp_all),λj=>?_,pU ok ⟨ha,hb⟩,⟨.inl fb.1,.inl fb.2.1,.inl fb.2.2.1,λx hx=>(tn x hx).elim (λq=>.inl (fb.2.2.2 x q)) (λq=>.inr ⟨qK KZ.size q,Ti.2.1.lt x hx⟩)⟩,λx hx=>hx.elim (λq=>qB (lt x q) Ll.size) (λq=>q.2)⟩,λx hx=>hx.imp (λq=>q) (λq=>q.1),Ll⟩
 ·exact ηm
theorem xA (B:Nat)(m:TM)(fp:Nat->Prop)(id a b:Int)(ids:List Int)(w:ϖ)(H:aQ 211 w B m fp)(ha:an a)(hb:an b)(hi:∀j,m j≠none->j ∈ ids)(hz:ids.length<=1000000)(p:Int × Int)(hm:m id=some p):Calls Ψ 213 #[B,ι ε id,a,b] w λe w'=>e=ϰ Kz/\fg 211 w w' B (aP m id (some (a,b))) fp:=by
 obtain⟨T,M,t,L,B',T',M',o,fi,hl,ok,fb,lt⟩:=H;refine η5 ?_;intro Zl SM Zm SN TD zT zM zB zb;have lM:=λ(v:ϖ) (h:aB v M L)=>(am Ω Θ h id (z:=φ (bL ⟨⟨0,0⟩,⟨0,0⟩⟩)) ρm).1;rw[hl,hm] at lM;simp only[Option.map_some,Option.getD_some,Option.isSome_some] at lM;have hd:=dz.del fi o hm;have o1:=AT.ord_del _ _ o hd.1;have hn:aP m id none id=none:=by unfold aP;rw[qP rfl]
 have hI:=dz.ins hd.2 (p:=(a,b)) hn;have sz:t.many<=1073741824:=τc;have sz1:(t.bare.del (gP id p).key).many<=1073741824:=by have:=AT.many_del _ _ o hd.1;simp only[PT.many] at sz;omega
 have Nk:=ag hl;clear hl;have Rr:=B'.r;go_in;go_upto_region 4 with (fail);refine jW (θ4 (Ks fp w) B' T' M') (λv=>ah v w (f9 a id b id) 335) ρB ?_;clear Rr;rintro v1 X1 ⟨I',Mm,MD,Ox⟩ Rr;have Ss:=X1.r;replace lM:=lM _ Ox;have nXM:w≠M:=ρa;go_upto_region 6 with (fail);refine jW (θ5 I' Mm MD Ox X1) (λv=>ah v v1 (bL (gP id p)) 335) ρB ?_;clear Rr Ss;rintro v2 Y2 ⟨J',LJ,Ng,N5,X2⟩ Rr;have Ss:=Y2.r;have NY:=af LJ;have qX:=af X2;have qY:=af Y2;refine Ws 6 (gH ?_);refine bE (θ6 LJ Ng N5 X2 Y2 J') ?_;clear Rr Ss;rintro v3 ⟨Lx,MO,Oi,X3,Y3,Kk⟩ Rr;clear NY qX qY LJ Ng N5 X2 Y2;clear lM;go_wp2_with fail;refine Zc (θ6 Kk Lx MO Oi X3 Y3) ?_;rintro v4 ⟨Km,Mt,ME,O8,X4,Y4⟩;refine(oV T t (gP id p).key _ ME o hd.1 sz).mono ?_;rintro e v5 ⟨rfl,t1,Px,tb1,tn1,kx⟩;have MS:=Mt.ko kx ρh;have UD:=O8.ko kx ρh;have X5:=X4.ko kx ρh;have Kw:KO fp w v5:=Km.trans kx ρ1;replace Rr:=θ2 MS.r X5.r;clear kx;have nbM1:∀x ∈ t1.bs,x≠M:=λx hx=>SN x (tn1 x hx);have nbB1:∀x ∈ t1.bs,x≠B:=λx hx=>TD x (tn1 x hx);have zb1:∀x ∈ t1.bs,x<w:=λx hx=>zb x (tn1 x hx);have fb1:=And.intro fb.1 (And.intro fb.2.1 (And.intro fb.2.2.1 (λx hx=>fb.2.2.2 x (tn1 x hx))));clear SN TD zb fb;have SN:=nbM1;have TD:=nbB1;have zb:=zb1;have fb:=fb1;have o1':AT.Ord t1.bare:=by rw[tb1];exact o1
 have hI':(∀y ∈ t1.bare.items,y.key≠(gP id (a,b)).key)/\dz (aP (aP m id none) id (some (a,b))) (t1.bare.ins (gP id (a,b))):=by rw[tb1];exact hI
 have WU:t1.many<=1073741824:=by simp only[PT.many];rw[tb1];exact sz1
 go_upto_region 7 with (fail);refine bR (θ5 Kw MS Px UD X5) ?_;clear Rr;rintro v6 ⟨KH,PU,PW,Vo,X6⟩ Rr;have NY:=af PU;have qX:=af X6;refine Ws 6 (gH ?_);refine bE (θ5 PU PW Vo X6 KH) ?_;clear Rr;rintro v7 ⟨Qg,Vt,TI,X7,KV⟩ Rr;clear NY qX PU PW Vo X6;obtain⟨v8,Ld,QH,kx,zx⟩:=bv Ω Θ TI id (φ (f9 a id b id));go_upto_region 8 with (fail);have RK:=Qg.ko kx ρj;have St:=Vt.ko kx ρj σE;have X8:=X7.ko kx ρj;have KZ:KO fp w v8:=KV.trans kx σx;replace Rr:=θ2 RK.r X8.r;clear kx Ld;refine bR (θ5 KZ RK St QH X8) ?_;clear Rr;rintro v9 ⟨Ll,QG,Ti,QI,X9⟩ Rr;have NY:=af QG;have qX:=af X9;refine Ws 8 (gH ?_);refine bE (θ5 QG Ti QI X9 Ll) ?_;clear Rr;rintro Ps ⟨WV,Pc,ND,Vy,Lc⟩ Rr;clear NY qX QG Ti QI X9;go_wp2_with fail;refine Zc (θ5 Lc WV Pc ND Vy) ?_;rintro MN ⟨Ls,B'11,NF,LP,Vz⟩;refine(oW T t1 (gP id (a,b)) _ NF o1' hI'.1 WU).mono ?_;rintro e OY ⟨rfl,t',Nn,tb,tn,kx⟩;have B'12:=B'11.ko kx ρh;have Mn:=LP.ko kx ρh;have Oz:=Vz.ko kx ρh;have Le:KO fp w OY:=Ls.trans kx ρ1;replace Rr:=θ2 B'12.r Oz.r;clear kx;go_wp2;go_ret;refine⟨rfl,λx=>fp x\/(w<=x/\x<OY),⟨T,M,t',_,B'12,Nn,Mn,by rw[tb];exact AT.ord_ins _ _ o1' hI'.1,by rw[tb];exact hI'.2.ext (λj=>by unfold aP;split<;>simp_all),λj=>?_,pU ok ⟨ha,hb⟩,⟨.inl fb.1,.inl fb.2.1,.inl fb.2.2.1,λx hx=>(tn x hx).elim (λq=>.inl (fb.2.2.2 x q)) (λq=>.inr ⟨qK Ls.size q,Nn.2.1.lt x hx⟩)⟩,λx hx=>hx.elim (λq=>qB (lt x q) Le.size) (λq=>q.2)⟩,λx hx=>hx.imp (λq=>q) (λq=>q.1),Le⟩
 ·exact ηm
theorem GZ (B:Nat)(m:TM)(fp:Nat->Prop)(id a b:Int)(ids:List Int)(w:ϖ)(H:aQ 211 w B m fp)(ha:an a)(hb:an b)(hi:∀j,m j≠none->j ∈ ids)(hz:ids.length<=1000000):Calls Ψ 213 #[B,ι ε id,a,b] w λe w'=>e=ϰ Kz/\fg 211 w w' B (aP m id (some (a,b))) fp:=by
 cases hm:m id with
 | none=>exact Ap B m fp id a b ids w H ha hb hi hz hm
 | some p=>exact xA B m fp id a b ids w H ha hb hi hz p hm
theorem Fk (B:Nat)(m:TM)(fp:Nat->Prop)(now p:Int)(w:ϖ)(H:aQ 209 w B m fp)(hp:min now Mb=p):Calls Ψ 215 #[B,now] w λe w'=>∃id ok,e=ϰ (χ #[ι ε id,β ok])/\uT m p id ok/\Below w w w':=by
 obtain⟨T,M,t,L,B',T',M',o,fi,hl,ok,fb,lt⟩:=H;have hq:=yM fi o p;obtain⟨f,ef⟩:=Nq (t.bare.bestTo p);rw[ef] at hq;have Hq:=ag hq;have Ef:=ag ef;have hv:(now<=Mb/\p=now)\/(¬now<=Mb/\p=Mb):=ρa;clear hq ef hp hl fi ok fb lt o M';obtain⟨g,eg⟩:=Nq (f.getD ⟨⟨0,0⟩,⟨0,0⟩⟩);obtain⟨b,eb⟩:=Nq f.isSome;have cBel:∀v,aZ v T t->CB 228 #[T,p] v (χ #[φ (bL g),β b]):=λv h=>by have:=xL T t p f v h Ef.out;rw[eg,eb] at this;exact this
 have HG:=ag (show g.key.id=(f.getD ⟨⟨0,0⟩,⟨0,0⟩⟩).key.id by rw[eg]);have HB:=ag (show b=f.isSome from eb.symm);clear eg eb;have Rr:=B'.r;rcases hv with ⟨hv,rfl⟩|⟨hv,rfl⟩
 all_goals
  go_in;go_wp2_with fail;refine(cBel _ T').mono ?_;rintro e w1 ⟨rfl,Kr⟩;go_wp2;go_ret2;exact⟨g.key.id,b,rfl,by rw[HG.out,HB.out];exact Hq.out,Kr.trans (Below.mono ρE Kr.size)⟩
theorem Fl (B:Nat)(m:TM)(fp:Nat->Prop)(now p:Int)(w:ϖ)(H:aQ 211 w B m fp)(hp:min now Mb=p):Calls Ψ 216 #[B,now] w λe w'=>∃id ok,e=ϰ (χ #[ι ε id,β ok])/\nH m p id ok/\Below w w w':=by
 obtain⟨T,M,t,L,B',T',M',o,fi,hl,ok,fb,lt⟩:=H;have hq:=yN fi o p;have hv:(now<=Mb/\p=now)\/(¬now<=Mb/\p=Mb):=ρa;have O:=ag o;clear hp hl fi ok fb lt o M';cases ef:t.bare.firstAt p with
 | none=>
 rw[ef] at hq;have Hq:=ag hq;clear hq;have hh:t.bare.hasAt p=false:=by
  have:=AT.firstAt_spec t.bare p O.out;rw[ef] at this;rcases e:t.bare.hasAt p with _|_
  ·rfl
  ·obtain⟨y,hy,hy2⟩:=(AT.hasAt_iff t.bare p).1 e;have:=this y hy;omega
 have Hh:=ag hh;clear hh;have cF:∀v,aZ v T t->CB 258 #[T,p] v (χ #[φ (f9 0 0 0 0),dO]):=λv h=>vU T t p v h Hh.out;clear ef;have Rr:=B'.r;rcases hv with ⟨hv,rfl⟩|⟨hv,rfl⟩
 all_goals
  go_in;go_wp2_with fail;refine(cF _ T').mono ?_;rintro e w1 ⟨rfl,Kr⟩;go_wp2;go_ret2;exact⟨0,false,rfl,Hq.out,Kr.trans (Below.mono ρE Kr.size)⟩
 | some x=>
 rw[ef] at hq;have Hq:=ag hq;have Ef:=ag ef;clear hq;have cF:∀v,aZ v T t->CB 258 #[T,p] v (χ #[φ (bL x),fF]):=λv h=>tp T t p x v h O.out Ef.out;clear ef;have Ss:=B'.r;rcases hv with ⟨hv,rfl⟩|⟨hv,rfl⟩
 all_goals
  go_in;go_wp2_with fail;refine(cF _ T').mono ?_;rintro e w1 ⟨rfl,Kr⟩;go_wp2;go_ret2;exact⟨x.key.id,true,rfl,Hq.out,Kr.trans (Below.mono ρE Kr.size)⟩
theorem GV (B:Nat)(m:TM)(fp:Nat->Prop)(w:ϖ)(H:aQ 209 w B m fp):Calls Ψ 227 #[B] w λe w'=>∃n:Nat,e=ϰ (ι ε n)/\(n=0↔∀j,m j=none)/\w=w':=by
 obtain⟨T,M,t,L,B',T',M',o,fi,hl,ok,fb,lt⟩:=H;have hn:L.length=0↔∀j,m j=none:=ξJ
 have HN:=ag hn;have ll:=aT Ω M';clear hn hl fi ok fb lt o;have Rr:=B'.r;go_in;go_wp2;go_ret;exact⟨_,rfl,HN.out,rfl⟩
theorem Dr (B:Nat)(m:TM)(fp:Nat->Prop)(w:ϖ)(H:aQ 211 w B m fp):Calls Ψ 224 #[B] w λe w'=>∃n:Nat,e=ϰ (ι ε n)/\(n=0↔∀j,m j=none)/\w=w':=by
 obtain⟨T,M,t,L,B',T',M',o,fi,hl,ok,fb,lt⟩:=H;have hn:L.length=0↔∀j,m j=none:=ξJ
 have HN:=ag hn;have ll:=aT Ω M';clear hn hl fi ok fb lt o;have Rr:=B'.r;go_in;go_wp2;go_ret;exact⟨_,rfl,HN.out,rfl⟩
theorem GY (B:Nat)(m:TM)(fp:Nat->Prop)(w:ϖ)(H:aQ 209 w B m fp):Calls Ψ 171 #[B] w λe w'=>∃v:Int,e=ϰ v/\ff m Mc v/\Below w w w':=by
 have H0:=H;obtain⟨T,M,t,L,B',T',M',o,fi,hl,ok,fb,lt⟩:=H;have O:=ag o;have FI:=ag fi;have OK:=ag ok;clear hl fi fb lt o M' ok;have Rr:=B'.r;go_in;go_wp2_with fail;refine(GV B m fp _ H0).mono ?_;rintro e u ⟨n,rfl,hn,rfl⟩;by_cases h0:n=0
 ·exact ηl
 ·have KI:¬∀j,m j=none:=λh=>h0 (hn.2 h);have d0:((n:Int)==0)=false:=ρ6;obtain⟨bb,l,i,r,rfl⟩:∃bb l i r,t=PT.node bb l i r:=by
   cases t with
   | nil=>exact ax ((dz.nil FI.out).1 rfl) KI
   | node bb l i r=>exact⟨bb,l,i,r,rfl⟩
  have hq:=wE FI.out O.out Mc;obtain⟨f,ef⟩:=Nq (l.bare.first i);rw[ef] at hq;obtain⟨v,ev⟩:=Nq (min f.key.pos Mc);rw[ev] at hq;have hv:(f.key.pos<=Mc/\v=f.key.pos)\/(¬f.key.pos<=Mc/\v=Mc):=ρa;have Ef:=ag ef;have Hq:=ag hq;clear ef hq ev hn h0 KI;rcases hv with ⟨hv,rfl⟩|⟨hv,rfl⟩
  all_goals
   go_wp2_with fail;refine(lT T bb l r i f _ T' Ef.out).mono ?_;rintro e w1 ⟨rfl,Kr⟩;go_wp2;go_ret;exact⟨_,rfl,Hq.out,Kr.trans (Below.mono ρE Kr.size)⟩
theorem Ji (B:Nat)(m:TM)(fp:Nat->Prop)(w:ϖ)(H:aQ 211 w B m fp):Calls Ψ 172 #[B] w λe w'=>∃v:Int,e=ϰ v/\iv m Mc v/\Below w w w':=by
 have H0:=H;obtain⟨T,M,t,L,B',T',M',o,fi,hl,ok,fb,lt⟩:=H;have O:=ag o;have FI:=ag fi;have OK:=ag ok;clear hl fi fb lt o M' ok;have Rr:=B'.r;go_in;go_wp2_with fail;refine(Dr B m fp _ H0).mono ?_;rintro e u ⟨n,rfl,hn,rfl⟩;by_cases h0:n=0
 ·exact ηl
 ·have KI:∃j,m j≠none:=by
   rcases Classical.em (∃j,m j≠none) with h|h
   ·exact h
   ·exact ax (hn.2 (λj=>by rcases e:m j with _|p;rfl;exact ax ⟨j,by rw[e];simp⟩ h)) h0
  have d0:((n:Int)==0)=false:=ρ6;obtain⟨f,ef⟩:=wb FI.out O.out OK.out KI;have hq:=wF FI.out O.out OK.out Mc f ef;obtain⟨v,ev⟩:=Nq (min f.val.pos Mc);rw[ev] at hq;have hv:(f.val.pos<=Mc/\v=f.val.pos)\/(¬f.val.pos<=Mc/\v=Mc):=ρa;have Ef:=ag ef;have Hq:=ag hq;clear ef hq ev hn h0 KI;rcases hv with ⟨hv,rfl⟩|⟨hv,rfl⟩
  all_goals
   go_wp2_with fail;refine(xL T t Ma (some f) _ T' Ef.out).mono ?_;rintro e w1 ⟨rfl,Kr⟩;simp only[Option.getD_some,Option.isSome_some];go_wp2;go_ret;exact⟨_,rfl,Hq.out,Kr.trans (Below.mono ρE Kr.size)⟩
theorem Jj (B:Nat)(m:TM)(fp:Nat->Prop)(w:ϖ)(H:aQ 211 w B m fp):Calls Ψ 156 #[B] w λe w'=>∃v ok,e=ϰ (χ #[ι υ v,β ok])/\jb m v ok/\Below w w w':=by
 obtain⟨T,M,t,L,B',T',M',o,fi,hl,ok,fb,lt⟩:=H;have O:=ag o;have FI:=ag fi;clear hl fi fb lt o M' ok;have Rr:=B'.r;cases t with
 | nil=>go_in;go_wp2_with fail;refine(vV T _ T').mono ?_;rintro e w1 ⟨rfl,Kr⟩;go_wp2;go_ret2;exact⟨_,_,rfl,⟨rfl,(dz.nil FI.out).1 rfl⟩,Kr.trans (Below.mono ρE Kr.size)⟩
 | node bb l i r=>have hq:=nW FI.out O.out;obtain⟨f,ef⟩:=Nq (l.bare.first i);rw[ef] at hq;have Ef:=ag ef;have Hq:=ag hq;clear ef hq;go_in;go_wp2_with fail;refine(lT T bb l r i f _ T' Ef.out).mono ?_;rintro e w1 ⟨rfl,Kr⟩;go_wp2;go_ret2;exact⟨_,_,rfl,Hq.out,Kr.trans (Below.mono ρE Kr.size)⟩
end Go.Proofs.YtfdlemkplejdnaaGreat
