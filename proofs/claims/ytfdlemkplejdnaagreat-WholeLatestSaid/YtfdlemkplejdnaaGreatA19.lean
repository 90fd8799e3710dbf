/- WholeLatest, part 19. Conditions: none. -/
import Derived.Test.YtfdlemkplejdnaaGreatA7
import Derived.Test.YtfdlemkplejdnaaGreatA11
import Derived.Test.YtfdlemkplejdnaaGreatA13
import Derived.Laws.MakeOwn
import Derived.OwnWalk
namespace Go.Proofs.YtfdlemkplejdnaaGreat
open Go.RowKit Go.Sort
open Value renaming int->ι,pointer->ψ,slice->ζ,tuple->χ,agg->φ,map->μ,bool->β
open IntKind renaming u64->υ,i64->ε,u16->ω
open Ending renaming returned->ϰ
open Go.Proofs.Tryz renaming prog->Ψ,underlying3->Θ,underlying147->Δ,underlying152->Γ,underlying202->Φ,underlying39->Ξ,underlying207->Ω
open Go renaming World->ϖ,Value->ϗ
set_option linter.unusedVariables false
set_option linter.unusedSimpArgs false
set_option maxHeartbeats 8000000
set_option maxRecDepth 100000
structure PK where
 (id len h0 h1 h2 h3:Int)
abbrev ud (p:PK):Array ϗ:=#[ι υ p.id,ι ε p.len,ι ω p.h0,ι ω p.h1,ι ω p.h2,ι ω p.h3]
abbrev Gj (p:PK):ϗ:=φ (ud p)
def PK.zero:PK:=⟨0,0,0,0,0,0⟩
def ei:List PK->List ϗ
 | []=>[]
 | p::r=>(ud p).toList++ei r
def bP (ps:List PK):Array ϗ:=(ei ps).toArray
theorem pi (ps:List PK):(ei ps).length=ps.length*6:=by
 induction ps with
 | nil=>rfl
 | cons p r ih=>simp only[ei,qL,ih,mD];simp;omega
theorem wl (ps:List PK):∀(k:Nat)(p:PK),ps[k]?=some p->∀j,j<6->(ei ps)[k*6+j]?=(ud p).toList[j]?:=by
 induction ps with
 | nil=>intro k p h;simp at h
 | cons q r ih=>
  intro k p h j hj;unfold ei;cases k with
  | zero=>have hqp:q=p:=σ1;subst hqp;rw[Nat.zero_mul,Nat.zero_add,List.getElem?_append_left τ3]
  | succ k=>
   rw[List.getElem?_append_right ρF];have:=ih k p σ1 j hj;rw[<- this]
   congr 1
   simp;omega
theorem eY {ps:List PK} {k:Nat} {p:PK} (h:ps[k]?=some p)(j:Nat)(hj:j<6):(bP ps)[k*6+j]?=(ud p).toList[j]?:=by unfold bP;rw[List.getElem?_toArray];exact wl ps k p h j hj
theorem wm (ps:List PK)(x:PK):∀k,k<ps.length->((((((ei ps).set (k*6) x.id).set (k*6+1) (ι ε x.len)).set (k*6+2) (ι ω x.h0)).set (k*6+3) (ι ω x.h1)).set (k*6+4) (ι ω x.h2)).set (k*6+5) (ι ω x.h3)=ei (ps.set k x):=by
 induction ps with
 | nil=>intro k h;simp at h
 | cons q r ih=>
  intro k h;cases k with
  | zero=>simp[ei]
  | succ k=>have:=ih k σ1;unfold ei;rw[show (k+1)*6=(k*6)+6 by omega];simp only[List.set_cons_succ,ei];rw[<- this];simp[List.set_append_right,Nat.add_right_comm]
theorem wn (ps:List PK)(x:PK)(k:Nat)(h:k<ps.length):((((((bP ps).setIfInBounds (k*6) x.id).setIfInBounds (k*6+1) (ι ε x.len)).setIfInBounds (k*6+2) (ι ω x.h0)).setIfInBounds (k*6+3) (ι ω x.h1)).setIfInBounds (k*6+4) (ι ω x.h2)).setIfInBounds (k*6+5) (ι ω x.h3)=bP (ps.set k x):=by unfold bP;simp only[List.setIfInBounds_toArray];rw[wm ps x k h]
theorem KO.setCells {F:Nat->Prop} {a:ϖ} {B:Nat} (hB:B<a->F B):∀(vs:List ϗ)(o:Nat)(w:ϖ),KO F a w->KO F a (w.setCells B o vs)
 | [],_,_,h=>h
 | v::r,o,w,h=>KO.setCells hB r (o+1) _ (h.setCell hB v)
theorem sN {P:Program} {Ki:Array Oper} {rest:List Oper} {op:Oper} {a:Act} {w:ϖ} {Q:Exit->Act->ϖ->Prop} (ty:TypeId)(x y:Operand)(B o:Nat)(cs cs' Rh:Array ϗ)(t:TypeId)
  (Ns:op.guard=none) (ho:op.op=.store ty x y) (hx:a.eval x=ψ (some ⟨B,o,none⟩)) (hy:a.eval y=φ cs') (hB:ah w B cs t) (MH:o+cs'.size<=cs.size) (Oc:cV cs o cs'.toList=Rh) (hi:(P.info? ty).map (·.size)=some cs'.size) (h1:cs'.all (·.oneCell')=true)
  (h:∀w',ah w' B Rh t->KO (λx=>x=B) w w'->w'.heap.size=w->wpList P Ki Q rest (a.put op.dst undef) w'):wpList P Ki Q (op::rest) a w:=by
 refine wpList_store_mid Ns ty x y ho B o cs' hx hy (λj hj=>?_) hi h1 ?_
 ·exact ηx
 ·have hb:=ah.setCells cs'.toList o w cs hB;rw[Oc] at hb;exact h _ hb (KO.setCells (F:=λx=>x=B) (λ_=>rfl) cs'.toList o w (KO.refl _ _)) (eC B _ _ _)
theorem kQ (ps:List PK)(x:PK)(k:Nat)(h:k<ps.length):cV (bP ps) (k*6) (ud x).toList=bP (ps.set k x):=wn ps x k h
theorem ml (ps:List PK):(bP ps).size=ps.length*6:=by unfold bP;simp[pi]
def bA (w:ϖ)(R S c f n:Nat)(ps:List PK):Prop:=ah w R #[ζ S c c,ι ε (f:Nat),ι ε (n:Nat)] 326/\ah w S (bP ps) 50/\ps.length=c/\f<c/\n<=c/\c<=64
theorem GP (R S c f n:Nat)(ps:List PK)(w:ϖ)(H:bA w R S c f n ps):Calls Ψ 151 #[R] w λe w'=>e=ϰ (ι ε n)/\w=w':=by
 obtain⟨R',S',hl,hf,hn,hc⟩:=H;have Rr:=R'.r;go_in;go_wp2;go_ret;exact⟨rfl,rfl⟩
theorem zi (R S c f n:Nat)(ps:List PK)(w:ϖ)(H:bA w R S c f n ps):
  CB 200 #[R] w (ι ε ((c:Int) - n)):=by
 obtain⟨R',S',hl,hf,hn,hc⟩:=H;have Rr:=θ2 R'.r S'.r;unfold CB;go_in;go_wp2_with fail;refine bR (θ3 (Ks (λ_=>False) w) R' S') ?_;clear Rr;rintro v1 ⟨I',Qi,Lp⟩ Rr;have q:=θ2 (af Qi) (af Lp);refine Wq ?_;refine tf ?_;refine bE (θ3 Qi Lp I') ?_;clear Rr;rintro v2 ⟨ZQ,MT,J'⟩ Rr;clear q Qi Lp;go_wp2;go_ret;exact⟨rfl,J'.below (qR _) (λ_ _ f=>f)⟩
theorem pH (R S c f n i:Nat)(ps:List PK)(w:ϖ)(H:bA w R S c f n ps)(hi:i<=64):
  CB 201 #[R,ι ε i] w (ι ε ((f+i) % c:Nat)):=by
 obtain⟨R',S',hl,hf,hn,hc⟩:=H;have hk:((f:Int)+(i:Nat)) % (c:Nat)=((f+i) % c:Nat):=by rw[Int.natCast_emod,Int.natCast_add]
 have b0:(1:Int)<=(c:Nat):=ρa;have b1:(f:Int)<=64:=ρa;have b2:(i:Int)<=64:=ρa;have Rr:=θ2 R'.r S'.r;unfold CB;go_in;go_wp2_with fail;refine bR (θ3 (Ks (λ_=>False) w) R' S') ?_;clear Rr;rintro v1 ⟨I',Qi,Lp⟩ Rr;have q:=θ2 (af Qi) (af Lp);refine Wq ?_;refine tf ?_;refine bE (θ3 Qi Lp I') ?_;clear Rr;rintro v2 ⟨ZQ,MT,J'⟩ Rr;clear q Qi Lp;go_wp2;go_ret;exact⟨dY hk,J'.below (qR _) (λ_ _ f=>f)⟩
theorem bA.below {w w':ϖ} {R S c f n:Nat} {ps:List PK} (H:bA w R S c f n ps)(k:Below w w w'):bA w' R S c f n ps:=⟨H.1.below k H.1.size,H.2.1.below k H.2.1.size,H.2.2⟩
instance {w R S c f n ps}:Mv (bA w R S c f n ps) w (λv'=>bA v' R S c f n ps):=⟨λk h=>bA.below h k⟩
theorem r9 (R S c f n:Nat)(ps:List PK)(x:PK)(w:ϖ)(H:bA w R S c f n ps)(YR:n=c):
  CB 153 #[R,Gj x] w (ι ε 5):=by
 obtain⟨R',S',hl,hf,hn,hc⟩:=H;have Rr:=θ2 R'.r S'.r;unfold CB;go_in;go_wp2_with fail;refine qi (θ3 (Ks (λ_=>False) w) R' S') (λv=>ah v w (ud x) 50) ρB ?_;clear Rr;rintro v1 X1 ⟨I',Qi,Lp⟩ Rr;have Ss:=X1.r;refine(zi R S c f n ps _ ⟨Qi,Lp,hl,hf,hn,hc⟩).mono ?_;rintro e v2 ⟨rfl,kx⟩;clear Rr Ss;obtain⟨⟨ZQ,MT,X2,J'⟩,Rr⟩:=Mx kx (θ4 Qi Lp X1 I');clear kx;have d0:(((c:Int) - n)==0)=true:=by rw[beq_iff_eq];omega
 go_wp2;go_ret;exact⟨rfl,J'.below (qR _) (λ_ _ f=>f)⟩
theorem xe (R S c f n:Nat)(ps:List PK)(x:PK)(w:ϖ)(H:bA w R S c f n ps)(Oq:n<c):Calls Ψ 153 #[R,Gj x] w λe w'=>e=ϰ Kz/\bA w' R S c f (n+1) (ps.set ((f+n) % c) x)/\KO (λx=>x=R\/x=S) w w':=by
 have G:=H;obtain⟨R',S',hl,hf,hn,hc⟩:=H;have TC:=eq R' S' ρf;have nSR:=TC.symm;have Nz:(f+n) % c<c:=Nat.mod_lt _ ρa;obtain⟨k,ek⟩:=Nq ((f+n) % c);rw[ek] at Nz;have hkl:k<ps.length:=ρa;have i0:(0:Int)<=(k:Int):=ρa;have i1:(k:Int)<(c:Int):=ρa;have cPl:∀v,bA v R S c f n ps->CB 201 #[R,ι ε n] v (ι ε k):=λv h=>by have:=pH R S c f n n ps v h ρa;rw[ek] at this;exact this
 have Ek:=ag ek;clear ek;have Rr:=θ2 R'.r S'.r;go_in;go_wp2_with fail;refine qi (θ4 (Ks (λx=>x=R\/x=S) w) R' S' G) (λv=>ah v w (ud x) 50) ρB ?_;clear Rr;rintro v1 X1 ⟨I',Qi,Lp,G1⟩ Rr;have Ss:=X1.r;refine(zi R S c f n ps _ ⟨Qi,Lp,hl,hf,hn,hc⟩).mono ?_;rintro e v2 ⟨rfl,kx⟩;clear Rr Ss;obtain⟨⟨ZQ,MT,G2,X2,J'⟩,Rr⟩:=Mx kx (θ5 Qi Lp G1 X1 I');clear kx;have d0:(((c:Int) - n)==0)=false:=ρ6;go_wp2_with fail;refine bR (θ5 J' ZQ MT G2 X2) ?_;clear Rr;rintro v3 ⟨Kk,ZR,MU,G3,X3⟩ Rr;have q:=θ3 (af ZR) (af MU) (af X3);refine Ws 12 (oR ?_)
 repeat (go_big_quiet_step ((first
   | (go_at_call 201;(with_reducible exact cD (cPl _ (G3.below (qW _ _ _))))))))
 refine bE (θ5 ZR MU G3 X3 Kk) ?_;clear Rr;rintro v4 ⟨R'4,OM,G4,X4,Km⟩ Rr;clear q ZR MU G3 X3;have nXS:w≠S:=by have:=S'.size;omega
 refine sN 50 (.tmp 23) (.tmp 22) S (k*6) (bP ps) (ud x) (bP (ps.set k x)) 50 ρs ρs ρs ρs OM (by rw[ml];simp;omega) (kQ ps x k hkl) ρi σf ?_;intro v5 NE kx zx;have R'5:=R'4.ko kx ρj;have X5:=X4.ko kx ρj;have Kw:KO (λx=>x=R\/x=S) w v5:=Km.trans kx τu;replace Rr:=θ3 R'5.r NE.r X5.r;clear kx;have bn:(n:Int)<=64:=ρa;go_wp2;refine eR v5 (λx=>x=R) (λv=>ah v (R) #[ζ S c c,ι ε (f:Nat),ι ε (n+1:Nat)] 326/\ah v (S) (bP (ps.set k x)) 50) ⟨ρB,ρB⟩ (λ_ kx=>(Kw.trans kx τu)) ?_;rintro v6 ⟨R'6,Pa⟩ KH;replace Rr:=θ2 R'6.r Pa.r;go_ret;exact⟨rfl,⟨R'6,by rw[Ek.out];exact Pa,by simp[hl],hf,by omega,hc⟩,KH⟩
theorem Dp (R S c f n:Nat)(ps:List PK)(p:PK)(w:ϖ)(H:bA w R S c f n ps)(h0:0<n)(hk:ps[f]?=some p):
  CB 259 #[R,Kz] w (χ #[φ (gT p.id p.len p.h0 p.h1 p.h2 p.h3),Kz]):=by
 have G:=H;obtain⟨R',S',hl,hf,hn,hc⟩:=H;have Nz:f<ps.length:=ρa;have i0:(0:Int)<=(f:Int):=ρa;have i1:(f:Int)<(c:Int):=ρa;have dn:=df ((n:Int)<=0);have g0:(bP ps)[f*6]?=some (ι υ p.id):=by have:=eY hk 0 ρa;simpa using this
 have g1:(bP ps)[f*6+1]?=some (ι ε p.len):=by have:=eY hk 1 ρa;simpa using this
 have g2:(bP ps)[f*6+2]?=some (ι ω p.h0):=by have:=eY hk 2 ρa;simpa using this
 have g3:(bP ps)[f*6+3]?=some (ι ω p.h1):=by have:=eY hk 3 ρa;simpa using this
 have g4:(bP ps)[f*6+4]?=some (ι ω p.h2):=by have:=eY hk 4 ρa;simpa using this
 have g5:(bP ps)[f*6+5]?=some (ι ω p.h3):=by have:=eY hk 5 ρa;simpa using this
 have cPl:∀v,bA v R S c f n ps->CB 201 #[R,Kz] v (ι ε f):=λv h=>by have:=pH R S c f n 0 ps v h ρa;rw[Nat.add_zero,Nat.mod_eq_of_lt hf] at this;exact this
 clear hk;have Rr:=θ2 R'.r S'.r;unfold CB;go_in;go_upto_region 6 with (fail);refine jW (θ4 (Ks (λ_=>False) w) R' S' G) (λv=>ah v w (gT 0 0 0 0 0 0) 50) ρB ?_;clear Rr;rintro v1 V1 ⟨I',Qi,Lp,G1⟩ Rr;replace rV:=V1.r;have q:=θ3 (af Qi) (af Lp) (af V1);refine Ws 9 (oR ?_)
 repeat (go_big_quiet_step ((first
   | (go_at_call 201;(with_reducible exact cD (cPl _ (G1.below (qW _ _ _))))))))
 refine bE (θ5 Qi Lp G1 V1 I') ?_;clear Rr;rintro v2 ⟨ZQ,MT,G2,V2,J'⟩ Rr;replace rV:=V2.r;clear q Qi Lp G1 V1;go_wp2_with fail;refine eR v2 (λx=>x=w.heap.size) (λv=>ah v w (gT p.id p.len p.h0 p.h1 p.h2 p.h3) 50) ρB (λ_ kx=>(J'.trans kx ρc)) ?_;rintro v3 V3 Kk;replace rV:=V3.r;refine qO (v:=χ #[φ (gT p.id p.len p.h0 p.h1 p.h2 p.h3),Kz]) (by simp[results,Tryz.results259,go_sem,rV.1]) rfl ⟨rfl,Kk.below (qR _) (λ_ _ f=>f)⟩
theorem GR (R S c f n:Nat)(ps:List PK)(p:PK)(w:ϖ)(H:bA w R S c f n ps)(h0:0<n)(hk:ps[f]?=some p):Calls Ψ 217 #[R] w λe w'=>e=ϰ (χ #[φ (gT p.id p.len p.h0 p.h1 p.h2 p.h3),Kz])/\bA w' R S c ((f+1) % c) (n - 1) (ps.set f PK.zero)/\KO (λx=>x=R\/x=S) w w':=by
 have G:=H;obtain⟨R',S',hl,hf,hn,hc⟩:=H;have TC:=eq R' S' ρf;have nSR:=TC.symm;have zR0:=R'.size;have Ym:=S'.size;have Nz:f<ps.length:=ρa;have i0:(0:Int)<=(f:Int):=ρa;have i1:(f:Int)<(c:Int):=ρa;have Rr:=θ2 R'.r S'.r;go_in;go_wp2_with fail;refine qi (θ4 (Ks (λx=>x=R\/x=S) w) R' S' G) (λv=>ah v w (gT 0 0 0 0 0 0) 50) ρB ?_;clear Rr;rintro v1 V1 ⟨I',Qi,Lp,G1⟩ Rr;replace rV:=V1.r;refine(Dp R S c f n ps p _ G1 h0 hk).mono ?_;rintro e v2 ⟨rfl,kx⟩;clear Rr;obtain⟨⟨ZQ,MT,G2,V2,J'⟩,Rr⟩:=Mx kx (θ5 Qi Lp G1 V1 I');replace rV:=V2.r;clear kx;go_upto_region 5 with (fail);refine jW (θ5 J' ZQ MT G2 V2) (λv=>ah v v2 (gT p.id p.len p.h0 p.h1 p.h2 p.h3) 50/\ah v (v2+1) (gT 0 0 0 0 0 0) 50) ⟨ρB,ρB⟩ ?_;clear Rr;rintro v3 ⟨X3,Y3⟩ ⟨Kk,ZR,MU,G3,V3⟩ Rr;replace rV:=V3.r;have Ss:=θ2 X3.r Y3.r;have q:=θ5 (af ZR) (af MU) (af V3) (af X3) (af Y3);refine Ws 10 (gH ?_);refine bE (θ7 ZR MU G3 V3 X3 Y3 Kk) ?_;clear Rr Ss;rintro v4 ⟨R'4,OM,G4,V4,X4,Y4,Km⟩ Rr;replace rV:=V4.r;clear q ZR MU G3 V3 X3 Y3;have nXS:v2≠S:=by have:=J'.size;omega
 have zv2:=J'.size;refine sN 50 (.tmp 25) (.tmp 24) S (f*6) (bP ps) (ud PK.zero) (bP (ps.set f PK.zero)) 50 ρs ρs ρs ρs OM (by rw[ml];simp;omega) (kQ ps PK.zero f Nz) ρi σf ?_;intro v5 NE kx zx;have R'5:=R'4.ko kx ρj;have V5:=V4.ko kx ρj;have X5:=X4.ko kx ρj;have Y5:=Y4.ko kx ρj;have Kw:KO (λx=>x=R\/x=S) w v5:=Km.trans kx σo;replace rV:=V5.r;replace Rr:=θ4 R'5.r NE.r X5.r Y5.r;clear kx;go_wp2_with fail;refine tg (θ6 Kw R'5 NE V5 X5 Y5) ?_;clear Rr;rintro v6 ⟨KH,R'6,Pa,V6,X6,Y6⟩ Rr;replace rV:=V6.r;have G6:bA v6 R S c f n (ps.set f PK.zero):=⟨R'6,Pa,by simp[hl],hf,hn,hc⟩;refine(pH R S c f n 1 _ _ G6 ρa).mono ?_;rintro e v7 ⟨rfl,kx⟩;clear Rr;obtain⟨⟨R'7,Tf,V7,X7,Y7,KV⟩,Rr⟩:=Mx kx (θ6 R'6 Pa V6 X6 Y6 KH);replace rV:=V7.r;clear kx;obtain⟨g,eg⟩:=Nq ((f+1) % c);rw[eg];have Eg:=ag eg;clear eg;have bn:(n:Int)<=64:=ρa;have b0:(1:Int)<=(n:Int):=ρa;go_upto_region 8 with (fail);refine iq v7 (λx=>x=R) (λv=>ah v (R) #[ζ S c c,ι ε (g:Nat),ι ε ((n:Int) - 1)] 326/\ah v (S) (bP (ps.set f PK.zero)) 50/\ah v w (gT 0 0 0 0 0 0) 50/\ah v v2 (gT p.id p.len p.h0 p.h1 p.h2 p.h3) 50/\ah v (v2+1) (gT 0 0 0 0 0 0) 50) ⟨ρB,ρB,ρB,ρB,ρB⟩ (λ_ kx=>(KV.trans kx σo)) ?_;rintro v8 ⟨R'8,RM,V8,X8,Y8⟩ KZ;replace rV:=V8.r;replace Rr:=θ4 R'8.r RM.r X8.r Y8.r;go_wp2_with fail;refine eR v8 (λx=>x=w.heap.size) (λv=>ah v (R) #[ζ S c c,ι ε (g:Nat),ι ε ((n:Int) - 1)] 326/\ah v (S) (bP (ps.set f PK.zero)) 50/\ah v w (gT p.id p.len p.h0 p.h1 p.h2 p.h3) 50) ⟨ρB,ρB,ρB⟩ (λ_ kx=>(KZ.trans kx σo)) ?_;rintro v9 ⟨R'9,S'9,V9⟩ Ll;replace rV:=V9.r;replace Rr:=θ2 R'9.r S'9.r;refine qO (v:=χ #[φ (gT p.id p.len p.h0 p.h1 p.h2 p.h3),Kz]) (by simp[results,Tryz.results217,go_sem,rV.1]) rfl ⟨rfl,⟨by rw[Eg.out,show ((n - 1:Nat):Int)=(n:Int) - 1 by omega];exact R'9,S'9,by simp[hl],Nat.mod_lt _ ρa,by omega,hc⟩,Ll⟩
theorem rh (c:Nat):ei (List.replicate c PK.zero)=(madeCells (gT 0 0 0 0 0 0) (c*6)).toList:=by
 induction c with
 | zero=>simp[ei,madeCells]
 | succ c ih=>
  rw[List.replicate_succ'];have happ:∀(a b:List PK),ei (a++b)=ei a++ei b:=by
   intro a b
   induction a with
   | nil=>rfl
   | cons x r ih2=>simp only[List.cons_append,ei,ih2,List.append_assoc]
  rw[happ,ih];unfold madeCells;rw[show (c+1)*6=c*6+6 by omega];apply List.ext_getElem?;intro i;by_cases hi:i<c*6
  ·rw[List.getElem?_append_left τj];simp[hi,show i<c*6+6 by omega]
  ·rw[List.getElem?_append_right ρF];simp only[Array.length_toList,Array.size_map,Array.size_range,ei,qA,PK.zero];by_cases hj:i<c*6+6
   ·obtain⟨j,rfl⟩:∃j,i=c*6+j:=⟨i - c*6,by omega⟩;have hj6:j<6:=ρa;simp only[Nat.add_sub_cancel_left,Array.getElem?_toList,Array.getElem?_map,Array.getElem?_range,hj,if_true,Option.map_some];have hm:(c*6+j) % 6=j:=ρa;rcases(by omega:j=0\/j=1\/j=2\/j=3\/j=4\/j=5) with rfl|rfl|rfl|rfl|rfl|rfl<;>simp[hm]
   ·rw[List.getElem?_eq_none ρF,List.getElem?_eq_none ρF]
theorem GQ (c:Nat)(w:ϖ)(h1:1<=c)(h2:c<=64):Calls Ψ 152 #[ι ε c] w λe w'=>e=ϰ (χ #[ψ (some ⟨w+1,0,none⟩),Kz])/\bA w' (w+1) w c 0 0 (List.replicate c PK.zero)/\Below w w w':=by
 have d1:=df ((c:Int)<1);have d2:=df (64<(c:Int));have hf:bP (List.replicate c PK.zero)=madeCells (gT 0 0 0 0 0 0) (c*6):=by unfold bP;rw[rh]
 obtain⟨i,hi,Sa,KN,Li⟩:=info_parts (P:=Ψ) (e:=50) (z:=φ (gT 0 0 0 0 0 0)) (size:=6) (bytes:=24) ρi;have hmk:∀v:ϖ,(Instr.makeSlice 324 (ι ε c) (ι ε c)).run Ψ v=.ok (ζ v c c) (v.alloc (.cells (bP (List.replicate c PK.zero)) 50)):=λv=>by have:=run_makeSlice (P:=Ψ) v 324 50 i _ Tryz.underlying324 hi Sa .i64 .i64 c c ρa ρa (by rw[KN];simp;omega) (by rw[Li];omega) ρa;rw[KN] at this;simp only[Int.toNat_natCast,Value.cells] at this;rw[hf];exact this
 have Hf:=ag hf;clear hf hi Sa KN Li;obtain⟨z,ez⟩:=Nq (bP (List.replicate c PK.zero));rw[ez] at hmk;have Ez:=ag ez;clear ez;go_in;go_wp2;go_ret2;exact⟨rfl,⟨show ah _ _ #[ζ w c c,Kz,Kz] _ from ρB,by rw[Ez.out];(repeat' (first|(with_reducible (first|assumption|exact ah.alloc_new _ _ _ ρ4|apply ah.drewN|apply ah.drew|apply ah.alloc_old|apply ah.set_same|apply ah.set_other))|(show (_:Nat)≠_;first|omega|(simp;done)|(simp;omega))|((simp only[List.setIfInBounds_toArray,List.set_cons_succ,List.set_cons_zero]);(with_reducible exact rfl))|(with_reducible exact rfl)|(show (_:Array ϗ)=_;exact rfl))),by simp,by omega,by omega,h2⟩,ρE⟩
def aA:List PK->Int
 | []=>0
 | p::r=>p.len+aA r
def aw:List PK->Int
 | []=>0
 | p::_=>p.len
def aW (w:ϖ)(B:Nat)(KG:Int)(c:Nat)(l:List PK)(fp:Nat->Prop):Prop:=∃(R S f:Nat)(ps:List PK)(k0 k1 k2 k3 k4 k5:Int),ah w B #[R,ι ε KG,ι ε (aA l),(k0),(k1),(k2),(k3),(k4),(k5)] 281/\bA w R S c f l.length ps/\(∀i,i<l.length->ps[(f+i) % c]?=l[i]?)/\(∀p ∈ l,1<=p.len/\p.len<=16384)/\(aA l<=KG/\1<=KG/\KG<=1048576)/\fp B/\fp R/\fp S/\(∀x,fp x->x<w.heap.size)
theorem bA.ko {w w':ϖ} {F:Nat->Prop} {R S c f n:Nat} {ps:List PK} (H:bA w R S c f n ps)(k:KO F w w')(h1:¬F R)(h2:¬F S):bA w' R S c f n ps:=⟨H.1.ko k h1,H.2.1.ko k h2,H.2.2⟩
theorem aW.ko {w w':ϖ} {F:Nat->Prop} {B:Nat} {KG:Int} {c:Nat} {l:List PK} {fp:Nat->Prop} (h:aW w B KG c l fp)(k:KO F w w')(hF:∀x,fp x->¬F x):aW w' B KG c l fp:=by obtain⟨R,S,f,ps,k0,k1,k2,k3,k4,k5,B',G,h1,h2,h3,h4,h5,h6,h7⟩:=h;exact⟨R,S,f,ps,k0,k1,k2,k3,k4,k5,B'.ko k (hF _ h4),G.ko k (hF _ h5) (hF _ h6),h1,h2,h3,h4,h5,h6,λx hx=>qB (h7 x hx) k.size⟩
theorem aW.below {w w':ϖ} {B:Nat} {KG:Int} {c:Nat} {l:List PK} {fp:Nat->Prop} (h:aW w B KG c l fp)(k:Below w w w'):aW w' B KG c l fp:=h.ko (KO.of_below (F:=λ_=>False) k) (λ_ _ f=>f)
instance {w B KG c l fp}:Mv (aW w B KG c l fp) w (λv'=>aW v' B KG c l fp):=⟨λk h=>aW.below h k⟩
def lz (w w':ϖ)(B:Nat)(KG:Int)(c:Nat)(l:List PK)(fp:Nat->Prop):Prop:=aW w' B KG c l fp/\KO fp w w'
theorem ug (B:Nat)(KG:Int)(c:Nat)(l:List PK)(fp:Nat->Prop)(w:ϖ)(H:aW w B KG c l fp):Calls Ψ 122 #[B] w λe w'=>e=ϰ (ι ε l.length)/\w=w':=by
 obtain⟨R,S,f,ps,k0,k1,k2,k3,k4,k5,B',G,MW,KC,Tr,fB,fR,fS,UL⟩:=H;clear MW KC Tr fB fR fS UL;obtain⟨by_,OQ⟩:=Nq (aA l);rw[OQ] at B';have cB:=B'.cell;have fB:=B'.frozen;have zB:=B'.size;go_in;go_wp2_with fail;refine(GP R S c f l.length ps _ G).mono ?_;rintro e u ⟨rfl,rfl⟩;go_wp2;go_ret;exact⟨rfl,rfl⟩
theorem Gl (B:Nat)(KG:Int)(c:Nat)(l:List PK)(fp:Nat->Prop)(w:ϖ)(H:aW w B KG c l fp):
  CB 220 #[B] w (ι ε (aw l)):=by
 have H0:=H;obtain⟨R,S,f,ps,k0,k1,k2,k3,k4,k5,B',G,MW,KC,Tr,fB,fR,fS,UL⟩:=H;cases l with
 | nil=>clear MW KC Tr fB fR fS UL G B';unfold CB;go_in;go_wp2_with fail;refine(ug B KG c [] fp _ H0).mono ?_;rintro e u ⟨rfl,rfl⟩;simp only[List.length_nil];go_wp2;go_ret;exact⟨rfl,ρE⟩
 | cons p r=>
  obtain⟨-,-,Mk,hf,hn,hc⟩:=id G;have NT:ps[f]?=some p:=by have:=MW 0 ρp;rw[Nat.add_zero,Nat.mod_eq_of_lt hf] at this;simpa using this
  have HP:=ag NT;obtain⟨by_,OQ⟩:=Nq (aA (p::r));rw[OQ] at B';obtain⟨n,en⟩:=Nq ((p::r).length);have n1:1<=n:=by rw[<- en];simp
  have d0:((n:Int)==0)=false:=ρ6;have cLen:∀v,v=w->Calls Ψ 122 #[B] v λe w'=>e=ϰ (ι ε n)/\v=w':=λv hv=>by subst hv;have:=ug B KG c (p::r) fp v H0;rw[en] at this;exact this
  rw[en] at G;clear MW KC Tr fB fR fS UL NT Mk hf hn hc OQ en H0;have cB:=B'.cell;have fB:=B'.frozen;have zB:=B'.size;unfold CB;go_in;go_wp2_with fail;refine(cLen _ rfl).mono ?_;rintro e u ⟨rfl,rfl⟩;clear cLen;go_wp2_with fail;refine(Dp R S c f n ps p _ G ρa HP.out).mono ?_;rintro e w1 ⟨rfl,Kr⟩;go_wp2;go_ret;exact⟨rfl,Kr.trans (Below.mono ρE Kr.size)⟩
theorem IS (c:Nat)(KG:Int)(w:ϖ)(h1:1<=c)(h2:c<=64)(h3:1<=KG)(h4:KG<=1048576):Calls Ψ 123 #[ι ε c,ι ε KG] w λe w'=>∃B:Nat,e=ϰ (χ #[B,Kz])/\(∃fp,aW w' B KG c [] fp/\∀x,fp x->w.heap.size<=x)/\Below w w w':=by
 have d1:=df (KG<1);have d2:=df (1048576<KG);go_in;go_wp2_with fail;refine(GQ c _ h1 h2).mono ?_;rintro e v1 ⟨rfl,G,hb⟩;go_wp2;go_ret2;have zR:=G.1.size;have zS:=G.2.1.size;refine⟨_,rfl,⟨λx=>w.heap.size<=x/\x<=v1,⟨w+1,w,0,_,0,0,0,0,0,0,show ah _ _ #[ψ (some ⟨w+1,0,none⟩),ι ε KG,Kz,Ky,Ky,Ky,Ky,Ky,Ky] _ from ρB,G.below ρE,λi hi=>by simp at hi,λp hp=>by simp at hp,by simp[aA];omega,⟨by omega,by omega⟩,⟨by omega,by omega⟩,⟨by omega,by omega⟩,λx hx=>by simp;omega⟩,λx hx=>hx.1⟩,hb.trans (Below.mono ρE hb.size)⟩
theorem dR {l:List PK} (h:∀p ∈ l,1<=p.len/\p.len<=16384):0<=aA l:=by
 induction l with
 | nil=>simp[aA]
 | cons p r ih=>have:=h p ρp;have:=ih (λq hq=>h q (by simp[hq]));simp only[aA];omega
theorem jt (l:List PK)(p:PK):aA (l++[p])=aA l+p.len:=by
 induction l with
 | nil=>simp[aA]
 | cons q r ih=>simp only[List.cons_append,aA,ih];omega
theorem yA {f i j c:Nat} (hf:f<c)(hij:i<j)(hj:j<c):(f+i) % c≠(f+j) % c:=by
 intro h;rcases Nat.lt_or_ge (f+i) c with h1|h1
 ·rw[Nat.mod_eq_of_lt h1] at h;rcases Nat.lt_or_ge (f+j) c with h2|h2
  ·rw[Nat.mod_eq_of_lt h2] at h;omega
  ·rw[Nat.mod_eq_sub_mod h2,Nat.mod_eq_of_lt ρa] at h;omega
 ·rw[Nat.mod_eq_sub_mod h1,Nat.mod_eq_of_lt ρa,Nat.mod_eq_sub_mod (by omega:f+j≥c),Nat.mod_eq_of_lt ρa] at h;omega
theorem xf {f c:Nat} {l ps:List PK} {p:PK} (MW:∀i,i<l.length->ps[(f+i) % c]?=l[i]?)(hf:f<c)(Oq:l.length<c)(Mk:ps.length=c):∀i,i<(l++[p]).length->(ps.set ((f+l.length) % c) p)[(f+i) % c]?=(l++[p])[i]?:=by
 intro i hi;rw[qL,mE] at hi;rw[List.getElem?_set];rcases Nat.lt_or_ge i l.length with h|h
 ·rw[qI (yA hf h Oq).symm,MW i h,List.getElem?_append_left h]
 ·have:i=l.length:=by omega
  subst this;rw[qP rfl,qP (by rw[Mk];exact Nat.mod_lt _ ρa),List.getElem?_append_right (qR _)];simp
theorem zF {f c n:Nat} {p:PK} {r ps:List PK} (MW:∀i,i<(p::r).length->ps[(f+i) % c]?=(p::r)[i]?)(hf:f<c)(hn:n<=c)(Mk:ps.length=c)(en:n - 1=r.length)(n1:1<=n):∀i,i<r.length->(ps.set f PK.zero)[((f+1) % c+i) % c]?=r[i]?:=by
 intro i hi;have e:((f+1) % c+i) % c=(f+(i+1)) % c:=by rw[Nat.mod_add_mod];congr 1;omega
 have KI:f≠(f+(i+1)) % c:=by have:=yA (f:=f) (i:=0) (j:=i+1) (c:=c) hf ρa ρa;rwa [Nat.add_zero,Nat.mod_eq_of_lt hf] at this
 rw[e,List.getElem?_set,qI KI,MW (i+1) ρF];simp
theorem rM (B:Nat)(KG:Int)(c:Nat)(l:List PK)(p:PK)(fp:Nat->Prop)(w:ϖ)(H:aW w B KG c l fp)(Lz:1<=p.len)(PN:p.len<=16384)(hb:KG - aA l<p.len):Calls Ψ 127 #[B,Gj p] w λe w'=>e=ϰ (ι ε 30)/\lz w w' B KG c l fp:=by
 obtain⟨R,S,f,ps,k0,k1,k2,k3,k4,k5,B',G,MW,KC,Tr,fB,fR,fS,UL⟩:=H;obtain⟨RB,SB,Mk,hf,hn,hc⟩:=id G;refine δW ?_;intro nBR nBS TC Vg zR0 Ym;obtain⟨by_,OQ⟩:=Nq (aA l);have UB:=ag OQ;rw[OQ] at B' Tr;have d1:=df (p.len<1);have d2:=df (16384<p.len);have d3:decide (KG - by_<p.len)=true:=qT (by have:=UB.out;omega);have bb0:0<=by_:=by rw[<- OQ];exact dR KC
 have ws:IntKind.i64.wrap (KG - by_)=KG - by_:=IntWalk.i64_in _ ρa;clear OQ RB SB;have Rr:=B'.r;go_in;go_upto_region 5 with (fail);refine jW (θ3 (Ks fp w) B' G) (λv=>ah v w (ud p) 50) ρB ?_;clear Rr;rintro v1 X1 ⟨I',Mm,G1⟩ Rr;have Ss:=X1.r;have q:=θ2 (af Mm) (af X1);refine Wq ?_;refine tf ?_;refine bE (θ4 Mm G1 X1 I') ?_;clear Rr Ss;rintro v2 ⟨LJ,G2,X2,J'⟩ Rr;clear q Mm G1 X1;go_upto_region 7 with (fail);refine iq v2 (λx=>x=B) (λv=>ah v (B) #[R,ι ε KG,ι ε (by_),(k0),(k1),ι υ (IntKind.u64.wrap (k2+1)),(k3),(k4),(k5)] 281/\ah v w (ud p) 50) ⟨ρB,ρB⟩ (λ_ kx=>θ2 (J'.trans kx ρl) (G2.ko kx ρj ρj)) ?_;rintro v3 ⟨Lx,X3⟩ ⟨Kk,G3⟩;replace Rr:=θ2 Lx.r X3.r;refine bR (θ4 Kk Lx G3 X3) ?_;clear Rr;rintro v4 ⟨Km,Mt,G4,X4⟩ Rr;have q:=θ2 (af Mt) (af X4);refine Ws 12 (gH ?_);refine bE (θ4 Mt G4 X4 Km) ?_;clear Rr;rintro v5 ⟨MS,G5,X5,Kw⟩ Rr;clear q Mt G4 X4;go_wp2;go_ret;refine⟨rfl,⟨R,S,f,ps,_,_,_,_,_,_,by rw[UB.out];(repeat' (first|(with_reducible (first|assumption|exact ah.alloc_new _ _ _ ρ4|apply ah.drewN|apply ah.drew|apply ah.alloc_old|apply ah.set_same|apply ah.set_other))|(show (_:Nat)≠_;first|omega|(simp;done)|(simp;omega))|((simp only[List.setIfInBounds_toArray,List.set_cons_succ,List.set_cons_zero]);(with_reducible exact rfl))|(with_reducible exact rfl)|(show (_:Array ϗ)=_;exact rfl))),G5.ko (show KO (λx=>x=B) _ _ from ρK) ρj ρj,MW,KC,by rw[UB.out];exact Tr,fB,fR,fS,λx hx=>qB (UL x hx) (by simp;exact Kw.size)⟩,Kw.trans (show KO (λx=>x=B) _ _ from ρK) ρl⟩
theorem uh (B:Nat)(KG:Int)(c:Nat)(l:List PK)(p:PK)(fp:Nat->Prop)(w:ϖ)(H:aW w B KG c l fp)(Lz:1<=p.len)(PN:p.len<=16384)(hb:p.len<=KG - aA l)(YR:l.length=c):Calls Ψ 127 #[B,Gj p] w λe w'=>e=ϰ (ι ε 30)/\lz w w' B KG c l fp:=by
 obtain⟨R,S,f,ps,k0,k1,k2,k3,k4,k5,B',G,MW,KC,Tr,fB,fR,fS,UL⟩:=H;obtain⟨RB,SB,Mk,hf,hn,hc⟩:=id G;refine δW ?_;intro nBR nBS TC Vg zR0 Ym;obtain⟨by_,OQ⟩:=Nq (aA l);have UB:=ag OQ;rw[OQ] at B' Tr;have d1:=df (p.len<1);have d2:=df (16384<p.len);have d3:decide (KG - by_<p.len)=false:=qF (by have:=UB.out;omega);have bb0:0<=by_:=by rw[<- OQ];exact dR KC
 have ws:IntKind.i64.wrap (KG - by_)=KG - by_:=IntWalk.i64_in _ ρa;clear OQ RB SB;have Rr:=B'.r;go_in;go_upto_region 5 with (fail);refine jW (θ3 (Ks fp w) B' G) (λv=>ah v w (ud p) 50) ρB ?_;clear Rr;rintro v1 X1 ⟨I',Mm,G1⟩ Rr;have Ss:=X1.r;have q:=θ2 (af Mm) (af X1);refine Ws 18 (gH ?_);refine bE (θ4 Mm G1 X1 I') ?_;clear Rr Ss;rintro v2 ⟨LJ,G2,X2,J'⟩ Rr;clear q Mm G1 X1;go_wp2_with fail;refine Zc (θ4 J' LJ G2 X2) ?_;rintro v3 ⟨Kk,Lx,G3,X3⟩;refine(r9 R S c f l.length ps p _ G3 YR).mono ?_;rintro e v4 ⟨rfl,kx⟩;clear Rr;obtain⟨⟨Mt,G4,X4,Km⟩,Rr⟩:=Mx kx (θ4 Lx G3 X3 Kk);clear kx;go_upto_region 7 with (fail);refine iq v4 (λx=>x=B) (λv=>ah v (B) #[R,ι ε KG,ι ε (by_),(k0),(k1),ι υ (IntKind.u64.wrap (k2+1)),(k3),(k4),(k5)] 281/\ah v w (ud p) 50) ⟨ρB,ρB⟩ (λ_ kx=>θ2 (Km.trans kx ρl) (G4.ko kx ρj ρj)) ?_;rintro v5 ⟨MS,X5⟩ ⟨Kw,G5⟩;replace Rr:=θ2 MS.r X5.r;refine bR (θ4 Kw MS G5 X5) ?_;clear Rr;rintro v6 ⟨KH,PU,G6,X6⟩ Rr;have q:=θ2 (af PU) (af X6);refine Ws 12 (gH ?_);refine bE (θ4 PU G6 X6 KH) ?_;clear Rr;rintro v7 ⟨Qg,G7,X7,KV⟩ Rr;clear q PU G6 X6;go_wp2;go_ret;refine⟨rfl,⟨R,S,f,ps,_,_,_,_,_,_,by rw[UB.out];(repeat' (first|(with_reducible (first|assumption|exact ah.alloc_new _ _ _ ρ4|apply ah.drewN|apply ah.drew|apply ah.alloc_old|apply ah.set_same|apply ah.set_other))|(show (_:Nat)≠_;first|omega|(simp;done)|(simp;omega))|((simp only[List.setIfInBounds_toArray,List.set_cons_succ,List.set_cons_zero]);(with_reducible exact rfl))|(with_reducible exact rfl)|(show (_:Array ϗ)=_;exact rfl))),G7.ko (show KO (λx=>x=B) _ _ from ρK) ρj ρj,MW,KC,by rw[UB.out];exact Tr,fB,fR,fS,λx hx=>qB (UL x hx) (by simp;exact KV.size)⟩,KV.trans (show KO (λx=>x=B) _ _ from ρK) ρl⟩
theorem yT (B:Nat)(KG:Int)(c:Nat)(l:List PK)(p:PK)(fp:Nat->Prop)(w:ϖ)(H:aW w B KG c l fp)(Lz:1<=p.len)(PN:p.len<=16384)(hb:p.len<=KG - aA l)(Oq:l.length<c):Calls Ψ 127 #[B,Gj p] w λe w'=>e=ϰ Kz/\lz w w' B KG c (l++[p]) fp:=by
 obtain⟨R,S,f,ps,k0,k1,k2,k3,k4,k5,B',G,MW,KC,Tr,fB,fR,fS,UL⟩:=H;obtain⟨RB,SB,Mk,hf,hn,hc⟩:=id G;refine δW ?_;intro nBR nBS TC Vg zR0 Ym;obtain⟨by_,OQ⟩:=Nq (aA l);have UB:=ag OQ;rw[OQ] at B' Tr;have d1:=df (p.len<1);have d2:=df (16384<p.len);have d3:decide (KG - by_<p.len)=false:=qF (by have:=UB.out;omega);have bb0:0<=by_:=by rw[<- OQ];exact dR KC
 have ws:IntKind.i64.wrap (KG - by_)=KG - by_:=IntWalk.i64_in _ ρa;clear OQ RB SB;have Rr:=B'.r;go_in;go_upto_region 5 with (fail);refine jW (θ3 (Ks fp w) B' G) (λv=>ah v w (ud p) 50) ρB ?_;clear Rr;rintro v1 X1 ⟨I',Mm,G1⟩ Rr;have Ss:=X1.r;have NY:=af Mm;have qX:=af X1;refine Ws 18 (gH ?_);refine bE (θ4 Mm G1 X1 I') ?_;clear Rr Ss;rintro v2 ⟨LJ,G2,X2,J'⟩ Rr;clear NY qX Mm G1 X1;go_wp2_with fail;refine Zc (θ4 J' LJ G2 X2) ?_;rintro v3 ⟨Kk,Lx,G3,X3⟩;refine(xe R S c f l.length ps p _ G3 Oq).mono ?_;rintro e v4 ⟨rfl,G4,kx⟩;have Mt:=Lx.ko kx ρj;have X4:=X3.ko kx ρj;have Km:KO fp w v4:=Kk.trans kx ρl;replace Rr:=θ2 Mt.r X4.r;clear kx;go_upto_region 9 with (fail);refine bR (θ4 Km Mt G4 X4) ?_;clear Rr;rintro v5 ⟨Kw,MS,G5,X5⟩ Rr;have NY:=af MS;have qX:=af X5;refine Ws 9 (gH ?_);refine bE (θ4 MS G5 X5 Kw) ?_;clear Rr;rintro v6 ⟨PU,G6,X6,KH⟩ Rr;clear NY qX MS G5 X5;go_upto_region 11 with (fail);refine iq v6 (λx=>x=B) (λv=>ah v (B) #[R,ι ε KG,ι ε (by_+p.len),ι υ (IntKind.u64.wrap (k0+1)),(k1),(k2),(k3),(k4),(k5)] 281/\ah v w (ud p) 50) ⟨ρB,ρB⟩ (λ_ kx=>θ2 (KH.trans kx ρl) (G6.ko kx ρj ρj)) ?_;rintro v7 ⟨Qg,X7⟩ ⟨KV,G7⟩;replace Rr:=θ2 Qg.r X7.r;refine bR (θ4 KV Qg G7 X7) ?_;clear Rr;rintro v8 ⟨KZ,RK,G8,X8⟩ Rr;have NY:=af RK;have qX:=af X8;refine Ws 12 (gH ?_);refine bE (θ4 RK G8 X8 KZ) ?_;clear Rr;rintro v9 ⟨QG,G9,X9,Ll⟩ Rr;clear NY qX RK G8 X8;go_wp2;go_ret;refine⟨rfl,⟨R,S,f,_,_,_,_,_,_,_,by rw[jt,UB.out];(repeat' (first|(with_reducible (first|assumption|exact ah.alloc_new _ _ _ ρ4|apply ah.drewN|apply ah.drew|apply ah.alloc_old|apply ah.set_same|apply ah.set_other))|(show (_:Nat)≠_;first|omega|(simp;done)|(simp;omega))|((simp only[List.setIfInBounds_toArray,List.set_cons_succ,List.set_cons_zero]);(with_reducible exact rfl))|(with_reducible exact rfl)|(show (_:Array ϗ)=_;exact rfl))),by rw[qL];exact G9.ko (show KO (λx=>x=B) _ _ from ρK) ρj ρj,xf MW hf Oq Mk,λq hq=>(qM.1 hq).elim (KC q) (λh=>by simp at h;subst h;exact⟨Lz,PN⟩),by have:=UB.out;rw[jt];omega,fB,fR,fS,λx hx=>qB (UL x hx) (by simp;exact Ll.size)⟩,Ll.trans (show KO (λx=>x=B) _ _ from ρK) ρl⟩
theorem IU (B:Nat)(KG:Int)(c:Nat)(p:PK)(r:List PK)(fp:Nat->Prop)(w:ϖ)(H:aW w B KG c (p::r) fp):Calls Ψ 161 #[B] w λe w'=>e=ϰ (χ #[φ (gT p.id p.len p.h0 p.h1 p.h2 p.h3),Kz])/\lz w w' B KG c r fp:=by
 obtain⟨R,S,f,ps,k0,k1,k2,k3,k4,k5,B',G,MW,KC,Tr,fB,fR,fS,UL⟩:=H;obtain⟨RB,SB,Mk,hf,hn,hc⟩:=id G;refine δW ?_;intro nBR nBS TC Vg zR0 Ym;have NT:ps[f]?=some p:=by have:=MW 0 ρp;rw[Nat.add_zero,Nat.mod_eq_of_lt hf] at this;simpa using this
 have hpl1:=KC p ρp;have NA:=dR (λq hq=>KC q (qb _ hq));obtain⟨by_,OQ⟩:=Nq (aA (p::r));have er:aA r=by_ - p.len:=by rw[<- OQ];simp only[aA];omega
 have UB:=ag OQ;have Er:=ag er;rw[OQ] at B' Tr;rw[er] at NA;obtain⟨n,en⟩:=Nq ((p::r).length);have n1:1<=n:=by rw[<- en];simp
 have En:=ag (show n - 1=r.length by rw[<- en];simp);rw[en] at G hn;have HP:=ag NT;clear OQ er NT en;clear RB SB;have Rr:=B'.r;go_in;go_wp2_with fail;refine qi (θ3 (Ks fp w) B' G) (λv=>ah v w (gT 0 0 0 0 0 0) 50) ρB ?_;clear Rr;rintro v1 V1 ⟨I',Mm,G1⟩ Rr;replace rV:=V1.r;refine(GR R S c f n ps p _ G1 ρa HP.out).mono ?_;rintro e v2 ⟨rfl,G2,kx⟩;have LJ:=Mm.ko kx ρj;have V2:=V1.ko kx ρj;have J':KO fp w v2:=I'.trans kx ρl;replace rV:=V2.r;replace Rr:=LJ.r;clear kx;have zv2:=J'.size;go_upto_region 6 with (fail);refine jW (θ4 J' LJ G2 V2) (λv=>ah v v2 (gT p.id p.len p.h0 p.h1 p.h2 p.h3) 50) ρB ?_;clear Rr;rintro v3 X3 ⟨Kk,Lx,G3,V3⟩ Rr;replace rV:=V3.r;have Ss:=X3.r;have NY:=af Lx;have qV:=af V3;have qX:=af X3;refine Ws 9 (gH ?_);refine bE (θ5 Lx G3 V3 X3 Kk) ?_;clear Rr Ss;rintro v4 ⟨Mt,G4,V4,X4,Km⟩ Rr;replace rV:=V4.r;clear NY qV qX Lx G3 V3 X3;go_upto_region 8 with (fail);refine iq v4 (λx=>x=B) (λv=>ah v (B) #[R,ι ε KG,ι ε (by_ - p.len),(k0),ι υ (IntKind.u64.wrap (k1+1)),(k2),(k3),(k4),(k5)] 281/\ah v w (gT 0 0 0 0 0 0) 50/\ah v v2 (gT p.id p.len p.h0 p.h1 p.h2 p.h3) 50) ⟨ρB,ρB,ρB⟩ (λ_ kx=>θ2 (Km.trans kx ρl) (G4.ko kx ρj ρj)) ?_;rintro v5 ⟨MS,V5,X5⟩ ⟨Kw,G5⟩;replace rV:=V5.r;replace Rr:=θ2 MS.r X5.r;have NY:=af MS;have qV:=af V5;have qX:=af X5;refine Ws 12 (gH ?_);refine bE (θ5 MS G5 V5 X5 Kw) ?_;clear Rr;rintro v6 ⟨PU,G6,V6,X6,KH⟩ Rr;replace rV:=V6.r;clear NY qV qX MS G5 V5 X5;go_upto_region 9 with (fail);refine iq v6 (λx=>x=B) (λv=>ah v (B) #[R,ι ε KG,ι ε (by_ - p.len),(k0),ι υ (IntKind.u64.wrap (k1+1)),(k2),(k3),ι υ (IntKind.u64.wrap (k4+p.len)),(k5)] 281/\ah v w (gT 0 0 0 0 0 0) 50/\ah v v2 (gT p.id p.len p.h0 p.h1 p.h2 p.h3) 50) ⟨ρB,ρB,ρB⟩ (λ_ kx=>θ2 (KH.trans kx ρl) (G6.ko kx ρj ρj)) ?_;rintro v8 ⟨RK,V8,X8⟩ ⟨KZ,G8⟩;replace rV:=V8.r;replace Rr:=θ2 RK.r X8.r;go_wp2_with fail;refine eR v8 (λx=>x=w.heap.size) (λv=>ah v (B) #[R,ι ε KG,ι ε (by_ - p.len),(k0),ι υ (IntKind.u64.wrap (k1+1)),(k2),(k3),ι υ (IntKind.u64.wrap (k4+p.len)),(k5)] 281/\ah v w (gT p.id p.len p.h0 p.h1 p.h2 p.h3) 50) ⟨ρB,ρB⟩ (λ_ kx=>θ2 (KZ.trans kx ρl) (G8.ko kx ρj ρj)) ?_;rintro v9 ⟨QG,V9⟩ ⟨Ll,G9⟩;replace rV:=V9.r;replace Rr:=QG.r;refine qO (v:=χ #[φ (gT p.id p.len p.h0 p.h1 p.h2 p.h3),Kz]) (by simp[results,Tryz.results161,go_sem,rV.1]) rfl ⟨rfl,⟨R,S,(f+1) % c,_,_,_,_,_,_,_,by rw[Er.out];exact QG,by rw[<- En.out];exact G9,zF MW hf hn Mk En.out n1,λq hq=>KC q (qb _ hq),by rw[Er.out];omega,fB,fR,fS,λx hx=>qB (UL x hx) Ll.size⟩,Ll⟩
def io (f:Int)(zs:List Int):Int:=zs.foldl max f
theorem ww (f:Int)(zs:List Int)(z:Int):io f (zs++[z])=max (io f zs) z:=by unfold io;simp
theorem rq (x y:Int)(w:ϖ)(b:Bool)(hb:decide (x<y)=b):Calls Ψ 226 #[x,y] w λe w'=>e=ϰ (β b)/\w=w':=by
 subst hb;have hx:(x !=x)=false:=ρp;have hy:(y !=y)=false:=ρp;have Uk:(x==x)=true:=ρp;have hy':(y==y)=true:=ρp;go_in;go_wp2;go_ret;exact⟨rfl,rfl⟩
theorem yk {f:Int} {zs:List Int} (hf:an f)(h:∀z ∈ zs,0<=z/\z<=Ma):0<=io f zs/\io f zs<=Ma:=by
 unfold io
 induction zs generalizing f with
 | nil=>exact hf
 | cons z zs ih=>have hz:=h z ρp;exact ih (f:=max f z) ρa (λy hy=>h y (by simp[hy]))
theorem po (f:Int)(a:Option Addr)(len Kt:Nat)(zs:List Int)(w:ϖ)(hr:qh w a len zs)(hm:len<=Mb):Calls Ψ 170 #[f,ζ a len Kt] w λe w'=>e=ϰ (io f zs)/\w=w':=by
 obtain⟨KC,hr⟩:=hr;have Nk:io f (zs.take 0)=f:=rfl;have NG:=ag (show zs.take len=zs from List.take_of_length_le ρa);have Tw:=ag KC;clear KC;have hr':=ag hr;clear hr;have hl0':=ag Nk;clear Nk;go_in;go_wp2;go_loop [0,9] (λt i=>∃k:Nat,k<=len/\i=ι ε k/\t=(io f (zs.take k))) (λ_ i=>len - (intOf i).toNat);case atStart=>exact⟨0,Nat.zero_le _,rfl,rfl⟩
 case round=>
  obtain⟨k,hk,rfl,rfl⟩:=hrel;by_cases Ku:k<len
  ·have hs:=mQ zs k (by rw[Tw.out];exact Ku);have Qc:=ag (show io f (zs.take (k+1))=max (io f (zs.take k)) (zs.getD k 0) by rw[hs,ww]);clear hs;obtain⟨b,off,rfl,hc⟩:∃b off,a=some ⟨b,off,none⟩/\∀i,i<len->w.cell? ⟨b,off+i,none⟩=some (ι υ (zs.getD i 0)):=by
    rcases hr'.out with h|h
    ·omega
    ·exact h
   have Ol:=hc k Ku;clear hc;by_cases Mp:io f (zs.take k)<zs.getD k 0
   ·go_wp2_with fail;refine(rq _ _ _ true (qT Mp)).mono ?_;rintro e w' ⟨rfl,rfl⟩;go_wp2;go_round;case rel=>exact⟨k+1,by omega,by go_num,by rw[Qc.out];refine qG _ ?_;show zs.getD k 0=_;omega⟩
    case measure=>simp[intOf];omega
   ·go_wp2_with fail;refine(rq _ _ _ false (qF (show ¬io f (zs.take k)<zs.getD k 0 by omega))).mono ?_;rintro e w' ⟨rfl,rfl⟩;go_wp2;go_round;case rel=>exact⟨k+1,by omega,by go_num,by rw[Qc.out];refine qG _ ?_;omega⟩
    case measure=>simp[intOf];omega
  ·obtain rfl:k=len:=by omega
   go_wp2;go_ret;exact⟨dY (by rw[NG.out]),rfl⟩
theorem vG (w:ϖ) {B:Nat} (zs:List Int)(hB:B=w):qh (w.alloc (.cells (zs.map (Value.int .u64)).toArray 39)) B zs.length zs:=by refine⟨rfl,.inr ⟨B,0,rfl,λi hi=>?_⟩⟩;rw[Nat.zero_add,(ah.alloc_new w _ _ hB).cell i];simp[hi]
theorem Jg (w:ϖ) {B:Nat} (x:Int)(hB:B=w):qh (w.alloc (.cells #[x] 39)) B 1 [x]:=vG w [x] hB
theorem Jh (w:ϖ) {B:Nat} (x y:Int)(hB:B=w):qh (w.alloc (.cells #[x,y] 39)) B 2 [x,y]:=vG w [x,y] hB
def EG (n u d:Int):Int:=min (max (max n u) d) Mc
theorem HV (n u d:Int)(w:ϖ)(hn:an n)(hu:an u)(hd:an d):Calls Ψ 132 (aH n u d) w λe w'=>e=ϰ (EG n u d)/\Below w w w':=by
 have e1:=ag (show AR [io n [u,d]]=EG n u d by simp[AR,io,EG];omega);have e2:=ag (show 0<=io n [u,d]/\io n [u,d]<=Ma from yk hn (by intro z hz;simp at hz;omega));go_in;go_wp2_with fail;refine(po n _ _ _ [u,d] _ (Jh _ _ _ rfl) ρf).mono ?_;rintro e w' ⟨rfl,rfl⟩;go_wp2_with fail;refine(DP _ _ _ [io n [u,d]] _ (Jg _ _ ρp) ρf (by intro z hz;simp at hz;subst hz;exact e2.out)).mono ?_;rintro e w' ⟨rfl,rfl⟩;rw[e1.out];go_wp2;go_ret;exact⟨rfl,ρE⟩
structure Lf (m d n now:Int) (l:LF) (h:Int):Prop where
 rng:0<=l.p/\l.p<=1099511627776
 hh:0<=h/\h<=16384
 lk:l.has=true->LK m d n now l.D l.E
 hs:0<h->l.has=true/\l.e=l.E.reach (l.p*65536)/\l.t=l.D.reach ((l.p+h)*65536)
theorem Lf.later {m d n now now':Int} {l:LF} {h:Int} (H:Lf m d n now l h)(hn:now<=now'):Lf m d n now' l h:=⟨H.rng,H.hh,λe=>(H.lk e).later hn,H.hs⟩
theorem Lf.et {m d n now:Int} (hc:dk m d n) {l:LF} {h:Int} (H:Lf m d n now l h)(h0:0<h):l.e<=l.t:=by obtain⟨h1,h2,h3⟩:=H.hs h0;have:=H.rng;rw[h2,h3];exact(H.lk h1).pair.elig hc ρa ρa
def CY (m d n:Int)(l:LF)(h dl t0 p0:Int):Prop:=
 (h=0/\l.p=p0)\/(l.has=true/\t0<=dl/\(∀v,0<=v->l.D.reach v<=dl->v<=p0*65536+sv m d n (dl - t0))/\(l.p - p0)*65536<=sv m d n (dl - t0))\/(0<h/\l.p=p0/\dl<l.t)
section
variable {m d n now:Int} {l:LF} {h dl t0 p0:Int}
theorem i6 (hc:dk m d n) {t:Int} (ht:0<=t):0<=sv m d n t:=(mP (by have:=hc.2.1;omega) hc.2.2.1.1 (by have:=hc.2.2.2;omega) ht).1
theorem n6 (hc:dk m d n)(H:Lf m d n now l h)(hn:0<=now/\now<=t0)(ht:t0<=Mb)(hd:dl<=Mb)(he:0<h->t0<l.e):CY m d n l h dl t0 l.p:=by
 have hr:=H.rng;by_cases h0:h=0
 ·exact .inl ⟨h0,rfl⟩
 have h0:0<h:=by have:=H.hh;omega
 obtain⟨h1,h2,h3⟩:=H.hs h0;have g:=H.et hc h0;have he:=he h0;by_cases Ku:dl<t0
 ·exact .inr (.inr ⟨h0,rfl,by omega⟩)
 ·refine .inr (.inl ⟨h1,by omega,λv QW hv=>?_,?_⟩)
  ·have K:=H.lk h1;have e1:=(RN.reach_iff (x:=dl) K.pair.1 QW ρa ρa).1 hv;have e2:=K.rise hc hn.1 hn.2 (show t0<=dl by omega) hd;have e3:=RN.reach_iff (x:=t0) K.pair.2.1 (W:=l.p*65536) ρa ρa ρa;rw[<- h2] at e3;have:¬l.p*65536<=l.E.at t0:=λq=>by have:=e3.2 q;omega
   omega
  ·have:=i6 hc (t:=dl - t0) ρa;omega
theorem yI (hc:dk m d n)(H:Lf m d n now l 0)(hn:0<=now/\now<=4611686018427387904)(ht:t0<=now)(hd:Ba dl)(h1:0<h/\h<=16384) {l':LF} (e1:l'.has=true)(e2:l'.p=l.p)
  (e3:l'.D=if l.has then RN.meet l.D (WN.start m d n ⟨now,l.p⟩) else WN.start m d n ⟨now,l.p⟩) (e4:l'.t=l'.D.reach ((l'.p+h)*65536)) (sm:l'.D.small) (O:CY m d n l 0 dl t0 p0):CY m d n l' h dl t0 p0:=by
 have hr:=H.rng;have hv:WN.ok ⟨now,l.p⟩:=by unfold WN.ok vS;simp only[];omega
 have up:l'.D.at dl<=l.p*65536+sv m d n (max (dl - now) 0):=by
  rw[e3];rcases hh:l.has with _|_
  ·rw[qI ρp,sJ hc _ hv hd.2];exact qJ _
  ·rw[qP rfl];exact(H.lk hh).new hc ⟨now,l.p⟩ hv hd.2
 rcases O with ⟨_,hp⟩|⟨g1,g2,g3,g4⟩|⟨g1,_⟩
 ·by_cases Ku:dl<now
  ·refine .inr (.inr ⟨h1.1,by omega,?_⟩);have i:=RN.reach_iff (x:=dl) sm (W:=(l'.p+h)*65536) ρa hd.1 ρa;rw[<- e4] at i;have hz:sv m d n (max (dl - now) 0)=0:=by
    rw[show max (dl - now) 0=0 by omega];unfold sv;rw[qP hc.2.2.1.1,Int.mul_zero]
   have:¬l'.t<=dl:=λq=>by have:=i.1 q;omega
   omega
  ·refine .inr (.inl ⟨e1,by omega,λv QW hvd=>?_,?_⟩)
   ·have:=(RN.reach_iff (x:=dl) sm QW hd.1 ρa).1 hvd;have mo:=vL (m:=m) (d:=d) (n:=n) (t:=max (dl - now) 0) (u:=dl - t0) hc.2.1.1 hc.2.2.2.1 ρa;omega
   ·have:=i6 hc (t:=dl - t0) ρa;omega
 ·refine .inr (.inl ⟨e1,g2,λv QW hvd=>?_,by rw[e2];exact g4⟩);have hx:=(RN.reach_iff (x:=dl) sm QW hd.1 ρa).1 hvd;rw[e3,qP g1] at hx;have K:=H.lk g1;have:=K.old hc ⟨now,l.p⟩ hv (x:=dl) hd.2;simp only[] at this;by_cases c:v<=l.D.at dl
  ·exact g3 v QW ((RN.reach_iff (x:=dl) K.pair.1 QW hd.1 ρa).2 c)
  ·omega
 ·omega
theorem yG (H:Lf m d n now l h)(h0:0<h)(hd:l.t<=dl) {l':LF} {h':Int} (e1:l'.has=l.has)(e2:l'.p=l.p+h)(e3:l'.D=l.D)(O:CY m d n l h dl t0 p0):CY m d n l' h' dl t0 p0/\t0<=dl:=by
 rcases O with ⟨g,_⟩|⟨g1,g2,g3,g4⟩|⟨_,_,g⟩
 ·omega
 ·refine⟨.inr (.inl ⟨by rw[e1];exact g1,g2,by rw[e3];exact g3,?_⟩),g2⟩;have:=g3 ((l.p+h)*65536) (by have:=H.rng;omega) (by rw[<- (H.hs h0).2.2];exact hd);rw[e2];omega
 ·omega
theorem yH (H:Lf m d n now l h)(h0:0<h)(hd:l.t<=dl)(O:CY m d n l h dl t0 p0):t0<=dl/\(l.p+h - p0)*65536<=sv m d n (dl - t0):=by
 rcases O with ⟨g,_⟩|⟨g1,g2,g3,g4⟩|⟨_,_,g⟩
 ·omega
 ·have:=g3 ((l.p+h)*65536) (by have:=H.rng;omega) (by rw[<- (H.hs h0).2.2];exact hd);exact⟨g2,by omega⟩
 ·omega
theorem EI (hc:dk m d n)(ht:t0<=dl)(O:CY m d n l h dl t0 p0):(l.p - p0)*65536<=sv m d n (dl - t0):=by have:=i6 hc (t:=dl - t0) ρa;rcases O with ⟨_,g⟩|⟨_,_,_,g⟩|⟨_,g,_⟩<;>omega
end
def cW (f:Int->Int):List Int->Int
 | []=>0
 | i::r=>f i+cW f r
theorem lN {f g:Int->Int}:∀{R:List Int},(∀i ∈ R,f i<=g i)->cW f R<=cW g R
 | [],_=>qJ _
 | i::r,h=>by have h1:=h i ρp;have h2:=lN (R:=r) (λj hj=>h j (by simp[hj]));simp only[cW];omega
theorem ic {f g:Int->Int} {R:List Int} (h:∀i ∈ R,f i=g i):cW f R=cW g R:=
 Int.le_antisymm (lN λi hi=>by rw[h i hi];exact qJ _) (lN λi hi=>by rw[h i hi];exact qJ _)
theorem sP (f:Int->Int)(c:Int):∀R:List Int,cW (λi=>f i*c) R=cW f R*c
 | []=>by simp[cW]
 | i::r=>by simp only[cW,sP f c r,Int.add_mul]
theorem fz {f g:Int->Int} {k x:Int}:∀{R:List Int},R.Nodup->k ∈ R->(∀i ∈ R,i≠k->f i=g i)->f k=g k+x->cW f R=cW g R+x
 | [],_,h,_,_=>by simp at h
 | i::r,hn,hk,he,hx=>by
  rw[qD] at hn;by_cases e:i=k
  ·subst e;have:cW f r=cW g r:=ic λj hj=>he j (by simp[hj]) (λe=>hn.1 (e ▸ hj));simp only[cW];omega
  ·have VQ:k ∈ r:=by rcases qC.1 hk with h|h;exact ax h.symm e;exact h
   have:=fz hn.2 VQ (λj hj=>he j (by simp[hj])) hx;have:=he i ρp e;simp only[cW];omega
theorem kK {f:Int->Int} {R:List Int} (h:∀i ∈ R,f i=0):cW f R=0:=by
 rw[ic (g:=λ_=>0) h]
 induction R with
 | nil=>rfl
 | cons i r ih=>simp only[cW];rw[ih (λj hj=>h j (by simp[hj]))];rfl
def IB (T Lm now:Int)(R:List Int)(c:Int->Int × Int × Int)(l:Int->LF)(h:Int->Int)(dl x:Int):Prop:=
 ∃(t0:Int) (p0:Int->Int),t0<=now/\x<=t0+T*Lm+T*cW (λi=>(l i).p - p0 i) R/\∀i ∈ R,CY (c i).1 (c i).2.1 (c i).2.2 (l i) (h i) dl t0 (p0 i)
abbrev FE (now:Int)(R:List Int)(c:Int->Int × Int × Int)(l:Int->LF)(h:Int->Int):Prop:=∀i ∈ R,dk (c i).1 (c i).2.1 (c i).2.2/\Lf (c i).1 (c i).2.1 (c i).2.2 now (l i) (h i)
def Io (T:Int)(R:List Int)(c:Int->Int × Int × Int):Prop:=∀t,0<=t->T*cW (λi=>sv (c i).1 (c i).2.1 (c i).2.2 t) R<=65536*t
section
variable {T Lm now:Int} {R:List Int} {c:Int->Int × Int × Int} {l l':Int->LF} {h h':Int->Int} {dl x:Int}
theorem IB.later {now':Int} (H:IB T Lm now R c l h dl x)(hn:now<=now'):IB T Lm now' R c l h dl x:=by obtain⟨t0,p0,h1,h2,h3⟩:=H;exact⟨t0,p0,by omega,h2,h3⟩
theorem IB.less {y:Int} (H:IB T Lm now R c l h dl x)(hy:y<=x):IB T Lm now R c l h dl y:=by obtain⟨t0,p0,h1,h2,h3⟩:=H;exact⟨t0,p0,h1,by omega,h3⟩
theorem IB.reset {now0:Int} (t0:Int)(H:FE now0 R c l h)(h0:0<=now0/\now0<=t0)(ht:t0<=now/\now<=Mb)(hd:dl<=Mb)(he:∀i ∈ R,0<h i->t0<(l i).e)(hx:x<=t0+T*Lm):IB T Lm now R c l h dl x:=by refine⟨t0,λi=>(l i).p,ht.1,?_,λi hi=>n6 (H i hi).1 (H i hi).2 h0 ρa hd (he i hi)⟩;rw[kK (λi _=>Int.sub_self _),Int.mul_zero];omega
theorem IB.late {k:Int} (H:FE now R c l h)(hn:Ba now)(hd:dl<=Mb)(hk:dl<(l k).t)(h0:0<h k)(hmin:∀i ∈ R,0<h i->(l i).e<=now->(l k).t<=(l i).t)(MX:∀i,i≠k->l' i=l i/\h' i=h i)
  (e1:(l' k).D=(l k).D) (e2:(l' k).p=(l k).p+h k) (e3:0<=h' k) (e4:0<h' k->(l' k).t=(l' k).D.reach (((l' k).p+h' k)*65536)) (hx:x<=now+T*Lm):IB T Lm now R c l' h' dl x:=by
 refine⟨now,λi=>(l' i).p,qJ _,?_,λi hi=>?_⟩
 ·rw[kK (λi _=>Int.sub_self _),Int.mul_zero];omega
 ·have Hi:=H i hi;by_cases e:i=k
  ·subst e;by_cases hz:h' i=0
   ·exact .inl ⟨hz,rfl⟩
   ·refine .inr (.inr ⟨by omega,rfl,?_⟩);obtain⟨g1,g2,g3⟩:=Hi.2.hs h0;have:=Hi.2.rng;rw[e4 ρa,e1,e2];rw[g3] at hk;have:=RN.reach_mono (Hi.2.lk g1).pair.1 (W:=((l i).p+h i)*65536) (W':=((l i).p+h i+h' i)*65536) ρa ρa;omega
  ·obtain⟨q1,q2⟩:=MX i e;simp only[];rw[q1,q2];by_cases hz:h i=0
   ·exact .inl ⟨hz,rfl⟩
   have hz:0<h i:=by have:=Hi.2.hh;omega
   by_cases UP:(l i).e<=now
   ·exact .inr (.inr ⟨hz,rfl,by have:=hmin i hi hz UP;omega⟩)
   ·exact n6 Hi.1 Hi.2 ⟨hn.1,qJ _⟩ hn.2 hd (λ_=>by omega)
theorem IB.wake {k:Int} (H:FE now R c l h)(hn:0<=now/\now<=4611686018427387904)(hd:Ba dl)(MX:∀i,i≠k->l' i=l i/\h' i=h i)(Nz:h k=0)(hk:0<h' k/\h' k<=16384)
  (hW:∀m d n,c k=(m,d,n)->(l' k).has=true/\(l' k).p=(l k).p/\((l' k).D=if (l k).has then RN.meet (l k).D (WN.start m d n ⟨now,(l k).p⟩) else WN.start m d n ⟨now,(l k).p⟩)/\(l' k).t=(l' k).D.reach (((l' k).p+h' k)*65536)/\(l' k).D.small)
  (I:IB T Lm now R c l h dl x):IB T Lm now R c l' h' dl x:=by
 obtain⟨t0,p0,h1,h2,h3⟩:=I;obtain⟨w1,w2,w3,w4,w5⟩:=hW _ _ _ rfl;refine⟨t0,p0,h1,?_,λi hi=>?_⟩
 ·rw[show cW (λi=>(l' i).p - p0 i) R=cW (λi=>(l i).p - p0 i) R from ic λi _=>by
   by_cases e:i=k
   ·subst e;omega
   ·rw[(MX i e).1]]
  exact h2
 ·by_cases e:i=k
  ·subst e;have O:=h3 i hi;have Hi:=H i hi;rw[Nz] at O;have L:=Hi.2;rw[Nz] at L;exact yI Hi.1 L hn h1 hd hk w1 w2 w3 w4 w5 O
  ·rw[(MX i e).1,(MX i e).2];exact h3 i hi
theorem IB.took {k:Int} (hR:R.Nodup)(hk:k ∈ R)(H:FE now R c l h)(h0:0<h k)(hd:(l k).t<=dl)(MX:∀i,i≠k->l' i=l i/\h' i=h i)(e1:(l' k).has=(l k).has)(e2:(l' k).p=(l k).p+h k)(e3:(l' k).D=(l k).D)(I:IB T Lm now R c l h dl x):IB T Lm now R c l' h' dl (x+T*h k):=by
 obtain⟨t0,p0,h1,h2,h3⟩:=I;refine⟨t0,p0,h1,?_,λi hi=>?_⟩
 ·rw[fz (g:=λi=>(l i).p - p0 i) (k:=k) (x:=h k) hR hk (λi _ e=>by rw[(MX i e).1]) ρa,Int.mul_add];omega
 ·by_cases e:i=k
  ·subst e;exact(yG (H i hi).2 h0 hd e1 e2 e3 (h3 i hi)).1
  ·rw[(MX i e).1,(MX i e).2];exact h3 i hi
theorem IB.done {k:Int} (hT:0<=T)(hA:Io T R c)(hR:R.Nodup)(hk:k ∈ R)(H:FE now R c l h)(h0:0<h k)(hd:(l k).t=dl)(I:IB T Lm now R c l h dl x):x+T*h k<=dl+T*Lm:=by
 obtain⟨t0,p0,h1,h2,h3⟩:=I;obtain⟨w1,w2⟩:=yH (H k hk).2 h0 ρa (h3 k hk);have q:cW (λi=>((l i).p+(if i=k then h k else 0) - p0 i)*65536) R<=cW (λi=>sv (c i).1 (c i).2.1 (c i).2.2 (dl - t0)) R:=lN λi hi=>by
  by_cases e:i=k
  ·subst e;simp only[qP];exact w2
  ·rw[qI e,Int.add_zero];exact EI (H i hi).1 w1 (h3 i hi)
 rw[sP (λi=>(l i).p+(if i=k then h k else 0) - p0 i),fz (f:=λi=>(l i).p+(if i=k then h k else 0) - p0 i) (g:=λi=>(l i).p - p0 i) (k:=k) (x:=h k) hR hk (λi _ e=>by simp only[qI e,Int.add_zero]) (by simp only[qP];omega)] at q;have a:=hA (dl - t0) ρa;have:=qU q hT;rw[<- Int.mul_assoc,Int.mul_add] at this;omega
end
section
variable {P:Program} {Ki:Array Oper}
def xT (Ki:Array Oper):Bool:=(List.range Ki.size).all λi=>(waits .any Ki i).all (λj=>decide (j<i))
theorem tw (h:xT Ki=true):∀(i:Nat)(o:Oper),Ki[i]?=some o->∀j ∈ waits .any Ki i,j<i:=by intro i o ho j hj;have hi:=(Array.getElem?_eq_some_iff.1 ho).1;have:=List.all_eq_true.1 h i (List.mem_range.2 hi);simpa using List.all_eq_true.1 this j hj
theorem kM {J:Array Bool->Act->ϖ->Prop} {Q:Exit->Act->ϖ->Prop} (S:∀(i:Nat)(o:Oper),Ki[i]?=some o->∀j ∈ waits .any Ki i,j<i)
  (NB:∀(i:Nat) (o:Oper),Ki[i]?=some o->∀L a w,L.size=Ki.size->J L a w->L.getD i false=false->(∀j ∈ waits .any Ki i,L.getD j false=true)->
   (Region.wanted o (yielded Ki a.tmps)=true->o.wp P a w (λa' w'=>J (L.setIfInBounds i true) a' w') Q)/\(Region.wanted o (yielded Ki a.tmps)=false->J (L.setIfInBounds i true) (a.put o.dst undef) w))
  (SC:∀L a w,L.size=Ki.size->J L a w->(∀i,i<Ki.size->L.getD i false=true)->Q .normal a w):
  ∀(fuel:Nat) (L:Array Bool) (a:Act) (w:ϖ),L.size=Ki.size->J L a w->uJ L Ki.size=fuel->wpAny P .any Ki Q fuel L a w
 | 0,L,a,w,hz,I,hu=>by
  have KW:=sX _ hu;refine⟨?_,SC L a w hz I KW⟩;cases hr:Region.ready .any Ki L with
  | nil=>rfl
  | cons i r=>
   exfalso;have hi:i ∈ Region.ready .any Ki L:=by rw[hr];exact List.mem_cons_self ..
   have h1:=(mem_ready.1 hi).1;rw[pj (KW i (jK hi))] at h1;cases h1
 | fuel+1,L,a,w,hz,I,hu=>by
  constructor
  ·intro h0;exfalso;have:∀n i,i<n->i<Ki.size->L.getD i false=true:=by
    intro n
    induction n with
    | zero=>intro i hi;omega
    | succ n ih=>
     intro i hi hs;by_cases hb:L.getD i false=true
     ·exact hb
     ·exfalso;have hf:L.getD i true=false:=by
       have Ku:i<L.size:=by rw[hz];exact hs
       simp only[Array.getD_eq_getD_getElem?] at*;simpa [Ku] using hb
      have hr:i ∈ Region.ready .any Ki L:=by
       refine mem_ready.2 ⟨hf,Ki[i],Array.getElem?_eq_getElem hs,λe he hbd=>?_⟩;have hw:e.on ∈ waits .any Ki i:=by unfold waits;rw[Array.getElem?_eq_getElem hs];exact List.mem_map.2 ⟨e,qE.2 ⟨by simpa using he,hbd⟩,rfl⟩
       have Ku:=S i _ (Array.getElem?_eq_getElem hs) _ hw;exact ih e.on ρa ρa
      rw[h0] at hr;cases hr
   have Sa:∀k,k<=Ki.size->uJ L k=0:=by
    intro k
    induction k with
    | zero=>intro _;rfl
    | succ k ih=>intro hk;unfold uJ;rw[ih ρa,this (k+1) k ρa ρa];rfl
   rw[Sa _ (qR _)] at hu;omega
  ·intro i hi;obtain⟨hun,o,ho,KW⟩:=mem_ready.1 hi;have his:=jK hi;have hL:i<L.size:=by rw[hz];exact his
   have hunf:L.getD i false=false:=by simp only[Array.getD_eq_getD_getElem?] at*;simpa [hL] using hun
   have hd:∀j ∈ waits .any Ki i,L.getD j false=true:=λj hj=>fN hi hj;obtain⟨s1,s2⟩:=NB i o ho L a w hz I hunf hd;have YQ:uJ (L.setIfInBounds i true) Ki.size=fuel:=κh;unfold wpOp;simp only[ho];by_cases hw:Region.wanted o (yielded Ki a.tmps)=true
   ·rw[qP hw];left;refine Oper.wp_mono ?_ (s1 hw);intro a' w' hJ;exact kM S NB SC fuel _ _ _ (by simp[hz]) hJ YQ
   ·rw[qI hw];exact kM S NB SC fuel _ _ _ (by simp[hz]) (s2 (by simpa using hw)) YQ
theorem nE {id:Nat} {Q:Exit->Act->ϖ->Prop} {a0:Act} {w0:ϖ} {l:List Oper} (J:Array Bool->Act->ϖ->Prop)(hm:P.follows .mixedOrders=true)(hB:xT l.toArray=true)
  (h0:J (Array.replicate l.toArray.size false) a0 {w0 with drawn:=w0.drawn+1})
  (NB:∀(i:Nat) (o:Oper),l[i]?=some o->∀L a w,L.size=l.toArray.size->J L a w->L.getD i false=false->(∀j ∈ waits .any l.toArray i,L.getD j false=true)->
   (Region.wanted o (yielded l.toArray a.tmps)=true->o.wp P a w (λa' w'=>J (L.setIfInBounds i true) a' w') Q)/\(Region.wanted o (yielded l.toArray a.tmps)=false->J (L.setIfInBounds i true) (a.put o.dst undef) w))
  (SC:∀L a w,L.size=l.toArray.size->J L a w->(∀i,i<l.toArray.size->L.getD i false=true)->Q .normal a w):(Code.region id l.toArray true).wp P Q a0 w0:=by
 refine wp_region_any hm ?_;exact kM (tw hB) (λi o ho=>NB i o (by simpa using ho)) SC _ _ _ _ ρp h0 (vP _ _)
end
end Go.Proofs.YtfdlemkplejdnaaGreat
