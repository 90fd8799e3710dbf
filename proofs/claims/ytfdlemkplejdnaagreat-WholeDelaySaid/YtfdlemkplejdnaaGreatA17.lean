/- WholeDelay, part 17. Conditions: none. -/
import Derived.Test.YtfdlemkplejdnaaGreatA10
import Derived.Test.YtfdlemkplejdnaaGreatA11
import Derived.Laws.MakeOwn
import Derived.OwnWalk
namespace Go.Proofs.YtfdlemkplejdnaaGreat
open Go.RowKit Go.Sort
open Value renaming int->ι,pointer->ψ,slice->ζ,tuple->χ,agg->φ,map->μ,bool->β
open IntKind renaming u64->υ,i64->ε,u16->ω
open Ending renaming returned->ϰ
open Go.Proofs.Tryz renaming prog->Ψ,underlying3->Θ,underlying147->Δ,underlying152->Γ,underlying202->Φ,underlying39->Ξ,underlying207->Ω
open Go renaming World->ϖ,Value->ϗ
set_option linter.unusedVariables false
set_option linter.unusedSimpArgs false
set_option maxHeartbeats 8000000
set_option maxRecDepth 100000
structure PK where
 (id len h0 h1 h2 h3:Int)
abbrev tC (p:PK):Array ϗ:=#[ι υ p.id,ι ε p.len,ι ω p.h0,ι ω p.h1,ι ω p.h2,ι ω p.h3]
abbrev FG (p:PK):ϗ:=φ (tC p)
def PK.zero:PK:=⟨0,0,0,0,0,0⟩
def dV:List PK->List ϗ
 | []=>[]
 | p::r=>(tC p).toList++dV r
def bO (ps:List PK):Array ϗ:=(dV ps).toArray
theorem oH (ps:List PK):(dV ps).length=ps.length*6:=by
 induction ps with
 | nil=>rfl
 | cons p r ih=>simp only[dV,ZL,ih,uo];simp;omega
theorem vG (ps:List PK):∀(k:Nat)(p:PK),ps[k]?=some p->∀j,j<6->(dV ps)[k*6+j]?=(tC p).toList[j]?:=by
 induction ps with
 | nil=>intro k p h;simp at h
 | cons q r ih=>
  intro k p h j hj;unfold dV;cases k with
  | zero=>have hqp:q=p:=σ4;subst hqp;rw[Nat.zero_mul,Nat.zero_add,List.getElem?_append_left κb]
  | succ k=>
   rw[List.getElem?_append_right ρJ];have:=ih k p σ4 j hj;rw[<- this]
   congr 1
   simp;omega
theorem eU {ps:List PK} {k:Nat} {p:PK} (h:ps[k]?=some p)(j:Nat)(hj:j<6):(bO ps)[k*6+j]?=(tC p).toList[j]?:=by unfold bO;rw[List.getElem?_toArray];exact vG ps k p h j hj
theorem vH (ps:List PK)(x:PK):∀k,k<ps.length->((((((dV ps).set (k*6) x.id).set (k*6+1) (ι ε x.len)).set (k*6+2) (ι ω x.h0)).set (k*6+3) (ι ω x.h1)).set (k*6+4) (ι ω x.h2)).set (k*6+5) (ι ω x.h3)=dV (ps.set k x):=by
 induction ps with
 | nil=>intro k h;simp at h
 | cons q r ih=>
  intro k h;cases k with
  | zero=>simp[dV]
  | succ k=>have:=ih k σ4;unfold dV;rw[show (k+1)*6=(k*6)+6 by omega];simp only[List.set_cons_succ,dV];rw[<- this];simp[List.set_append_right,Nat.add_right_comm]
theorem vI (ps:List PK)(x:PK)(k:Nat)(h:k<ps.length):((((((bO ps).setIfInBounds (k*6) x.id).setIfInBounds (k*6+1) (ι ε x.len)).setIfInBounds (k*6+2) (ι ω x.h0)).setIfInBounds (k*6+3) (ι ω x.h1)).setIfInBounds (k*6+4) (ι ω x.h2)).setIfInBounds (k*6+5) (ι ω x.h3)=bO (ps.set k x):=by unfold bO;simp only[List.setIfInBounds_toArray];rw[vH ps x k h]
theorem KO.setCells {F:Nat->Prop} {a:ϖ} {B:Nat} (hB:B<a->F B):∀(vs:List ϗ)(o:Nat)(w:ϖ),KO F a w->KO F a (w.setCells B o vs)
 | [],_,_,h=>h
 | v::r,o,w,h=>KO.setCells hB r (o+1) _ (h.setCell hB v)
theorem rD {P:Program} {JF:Array Oper} {rest:List Oper} {op:Oper} {a:Act} {w:ϖ} {Q:Exit->Act->ϖ->Prop} (ty:TypeId)(x y:Operand)(B o:Nat)(cs cs' Qp:Array ϗ)(t:TypeId)
  (Mt:op.guard=none) (ho:op.op=.store ty x y) (hx:a.eval x=ψ (some ⟨B,o,none⟩)) (hy:a.eval y=φ cs') (hB:ah w B cs t) (Lz:o+cs'.size<=cs.size) (Ny:cH cs o cs'.toList=Qp) (hi:(P.info? ty).map (·.size)=some cs'.size) (h1:cs'.all (·.oneCell')=true)
  (h:∀w',ah w' B Qp t->KO (λx=>x=B) w w'->w'.heap.size=w->wpList P JF Q rest (a.put op.dst undef) w'):wpList P JF Q (op::rest) a w:=by
 refine wpList_store_mid Mt ty x y ho B o cs' hx hy (λj hj=>?_) hi h1 ?_
 ·exact ηu
 ·have hb:=ah.setCells cs'.toList o w cs hB;rw[Ny] at hb;exact h _ hb (KO.setCells (F:=λx=>x=B) (λ_=>rfl) cs'.toList o w (KO.refl _ _)) (eq B _ _ _)
theorem kE (ps:List PK)(x:PK)(k:Nat)(h:k<ps.length):cH (bO ps) (k*6) (tC x).toList=bO (ps.set k x):=vI ps x k h
theorem lQ (ps:List PK):(bO ps).size=ps.length*6:=by unfold bO;simp[oH]
def bz (w:ϖ)(R S c f n:Nat)(ps:List PK):Prop:=ah w R #[ζ S c c,ι ε (f:Nat),ι ε (n:Nat)] 326/\ah w S (bO ps) 50/\ps.length=c/\f<c/\n<=c/\c<=64
theorem Gd (R S c f n:Nat)(ps:List PK)(w:ϖ)(H:bz w R S c f n ps):Calls Ψ 151 #[R] w λe w'=>e=ϰ (ι ε n)/\w=w':=by
 obtain⟨R',S',hl,hf,hn,hc⟩:=H;have Rr:=R'.r;go_in;go_wp2;go_ret;exact⟨rfl,rfl⟩
theorem yF (R S c f n:Nat)(ps:List PK)(w:ϖ)(H:bz w R S c f n ps):
  CB 200 #[R] w (ι ε ((c:Int) - n)):=by
 obtain⟨R',S',hl,hf,hn,hc⟩:=H;have Rr:=θ2 R'.r S'.r;unfold CB;go_in;go_wp2_with fail;refine bK (θ3 (Ks (λ_=>False) w) R' S') ?_;clear Rr;rintro v1 ⟨I',Po,KC⟩ Rr;have q:=θ2 (ae Po) (ae KC);refine Wq ?_;refine nZ ?_;refine bB (θ3 Po KC I') ?_;clear Rr;rintro v2 ⟨Zl,LJ,JE⟩ Rr;clear q Po KC;go_wp2;go_ret;exact⟨rfl,JE.below (ZR _) (λ_ _ f=>f)⟩
theorem oW (R S c f n i:Nat)(ps:List PK)(w:ϖ)(H:bz w R S c f n ps)(hi:i<=64):
  CB 201 #[R,ι ε i] w (ι ε ((f+i) % c:Nat)):=by
 obtain⟨R',S',hl,hf,hn,hc⟩:=H;have hk:((f:Int)+(i:Nat)) % (c:Nat)=((f+i) % c:Nat):=by rw[Int.natCast_emod,Int.natCast_add]
 have b0:(1:Int)<=(c:Nat):=ρa;have b1:(f:Int)<=64:=ρa;have b2:(i:Int)<=64:=ρa;have Rr:=θ2 R'.r S'.r;unfold CB;go_in;go_wp2_with fail;refine bK (θ3 (Ks (λ_=>False) w) R' S') ?_;clear Rr;rintro v1 ⟨I',Po,KC⟩ Rr;have q:=θ2 (ae Po) (ae KC);refine Wq ?_;refine nZ ?_;refine bB (θ3 Po KC I') ?_;clear Rr;rintro v2 ⟨Zl,LJ,JE⟩ Rr;clear q Po KC;go_wp2;go_ret;exact⟨dS hk,JE.below (ZR _) (λ_ _ f=>f)⟩
theorem bz.below {w w':ϖ} {R S c f n:Nat} {ps:List PK} (H:bz w R S c f n ps)(k:Below w w w'):bz w' R S c f n ps:=⟨H.1.below k H.1.size,H.2.1.below k H.2.1.size,H.2.2⟩
instance {w R S c f n ps}:Mv (bz w R S c f n ps) w (λv'=>bz v' R S c f n ps):=⟨λk h=>bz.below h k⟩
theorem qU (R S c f n:Nat)(ps:List PK)(x:PK)(w:ϖ)(H:bz w R S c f n ps)(Yp:n=c):
  CB 153 #[R,FG x] w (ι ε 5):=by
 obtain⟨R',S',hl,hf,hn,hc⟩:=H;have Rr:=θ2 R'.r S'.r;unfold CB;go_in;go_wp2_with fail;refine pw (θ3 (Ks (λ_=>False) w) R' S') (λv=>ah v w (tC x) 50) ρB ?_;clear Rr;rintro v1 X1 ⟨I',Po,KC⟩ Rr;have Ss:=X1.r;refine(yF R S c f n ps _ ⟨Po,KC,hl,hf,hn,hc⟩).mono ?_;rintro e v2 ⟨rfl,kx⟩;clear Rr Ss;obtain⟨⟨Zl,LJ,X2,JE⟩,Rr⟩:=Mx kx (θ4 Po KC X1 I');clear kx;have d0:(((c:Int) - n)==0)=true:=by rw[beq_iff_eq];omega
 go_wp2;go_ret;exact⟨rfl,JE.below (ZR _) (λ_ _ f=>f)⟩
theorem wA (R S c f n:Nat)(ps:List PK)(x:PK)(w:ϖ)(H:bz w R S c f n ps)(NK:n<c):Calls Ψ 153 #[R,FG x] w λe w'=>e=ϰ Kz/\bz w' R S c f (n+1) (ps.set ((f+n) % c) x)/\KO (λx=>x=R\/x=S) w w':=by
 have G:=H;obtain⟨R',S',hl,hf,hn,hc⟩:=H;have SJ:=dX R' S' ρf;have nSR:=SJ.symm;have MG:(f+n) % c<c:=Nat.mod_lt _ ρa;obtain⟨k,ek⟩:=Nq ((f+n) % c);rw[ek] at MG;have hkl:k<ps.length:=ρa;have i0:(0:Int)<=(k:Int):=ρa;have i1:(k:Int)<(c:Int):=ρa;have cPl:∀v,bz v R S c f n ps->CB 201 #[R,ι ε n] v (ι ε k):=λv h=>by have:=oW R S c f n n ps v h ρa;rw[ek] at this;exact this
 have Ek:=ag ek;clear ek;have Rr:=θ2 R'.r S'.r;go_in;go_wp2_with fail;refine pw (θ4 (Ks (λx=>x=R\/x=S) w) R' S' G) (λv=>ah v w (tC x) 50) ρB ?_;clear Rr;rintro v1 X1 ⟨I',Po,KC,G1⟩ Rr;have Ss:=X1.r;refine(yF R S c f n ps _ ⟨Po,KC,hl,hf,hn,hc⟩).mono ?_;rintro e v2 ⟨rfl,kx⟩;clear Rr Ss;obtain⟨⟨Zl,LJ,G2,X2,JE⟩,Rr⟩:=Mx kx (θ5 Po KC G1 X1 I');clear kx;have d0:(((c:Int) - n)==0)=false:=ρ6;go_wp2_with fail;refine bK (θ5 JE Zl LJ G2 X2) ?_;clear Rr;rintro v3 ⟨JI,Zm,LP,G3,X3⟩ Rr;have q:=θ3 (ae Zm) (ae LP) (ae X3);refine Ws 12 (nY ?_)
 repeat (go_big_quiet_step ((first
   | (go_at_call 201;(with_reducible exact bZ (cPl _ (G3.below (ZW _ _ _))))))))
 refine bB (θ5 Zm LP G3 X3 JI) ?_;clear Rr;rintro v4 ⟨R'4,N5,G4,X4,JJ⟩ Rr;clear q Zm LP G3 X3;have nXS:w≠S:=by have:=S'.size;omega
 refine rD 50 (.tmp 23) (.tmp 22) S (k*6) (bO ps) (tC x) (bO (ps.set k x)) 50 ρs ρs ρs ρs N5 (by rw[lQ];simp;omega) (kE ps x k hkl) ρh σg ?_;intro v5 ML kx zx;have R'5:=R'4.ko kx ρj;have X5:=X4.ko kx ρj;have JP:KO (λx=>x=R\/x=S) w v5:=JJ.trans kx τw;replace Rr:=θ3 R'5.r ML.r X5.r;clear kx;have bn:(n:Int)<=64:=ρa;go_wp2;refine eD v5 (λx=>x=R) (λv=>ah v (R) #[ζ S c c,ι ε (f:Nat),ι ε (n+1:Nat)] 326/\ah v (S) (bO (ps.set k x)) 50) ⟨ρB,ρB⟩ (λ_ kx=>(JP.trans kx τw)) ?_;rintro v6 ⟨R'6,Oj⟩ JT;replace Rr:=θ2 R'6.r Oj.r;go_ret;exact⟨rfl,⟨R'6,by rw[Ek.out];exact Oj,by simp[hl],hf,by omega,hc⟩,JT⟩
theorem CI (R S c f n:Nat)(ps:List PK)(p:PK)(w:ϖ)(H:bz w R S c f n ps)(h0:0<n)(hk:ps[f]?=some p):
  CB 259 #[R,Kz] w (χ #[φ (gM p.id p.len p.h0 p.h1 p.h2 p.h3),Kz]):=by
 have G:=H;obtain⟨R',S',hl,hf,hn,hc⟩:=H;have MG:f<ps.length:=ρa;have i0:(0:Int)<=(f:Int):=ρa;have i1:(f:Int)<(c:Int):=ρa;have dn:=df ((n:Int)<=0);have g0:(bO ps)[f*6]?=some (ι υ p.id):=by have:=eU hk 0 ρa;simpa using this
 have g1:(bO ps)[f*6+1]?=some (ι ε p.len):=by have:=eU hk 1 ρa;simpa using this
 have g2:(bO ps)[f*6+2]?=some (ι ω p.h0):=by have:=eU hk 2 ρa;simpa using this
 have g3:(bO ps)[f*6+3]?=some (ι ω p.h1):=by have:=eU hk 3 ρa;simpa using this
 have g4:(bO ps)[f*6+4]?=some (ι ω p.h2):=by have:=eU hk 4 ρa;simpa using this
 have g5:(bO ps)[f*6+5]?=some (ι ω p.h3):=by have:=eU hk 5 ρa;simpa using this
 have cPl:∀v,bz v R S c f n ps->CB 201 #[R,Kz] v (ι ε f):=λv h=>by have:=oW R S c f n 0 ps v h ρa;rw[Nat.add_zero,Nat.mod_eq_of_lt hf] at this;exact this
 clear hk;have Rr:=θ2 R'.r S'.r;unfold CB;go_in;go_upto_region 6 with (fail);refine jf (θ4 (Ks (λ_=>False) w) R' S' G) (λv=>ah v w (gM 0 0 0 0 0 0) 50) ρB ?_;clear Rr;rintro v1 V1 ⟨I',Po,KC,G1⟩ Rr;replace rV:=V1.r;have q:=θ3 (ae Po) (ae KC) (ae V1);refine Ws 9 (nY ?_)
 repeat (go_big_quiet_step ((first
   | (go_at_call 201;(with_reducible exact bZ (cPl _ (G1.below (ZW _ _ _))))))))
 refine bB (θ5 Po KC G1 V1 I') ?_;clear Rr;rintro v2 ⟨Zl,LJ,G2,V2,JE⟩ Rr;replace rV:=V2.r;clear q Po KC G1 V1;go_wp2_with fail;refine eD v2 (λx=>x=w.heap.size) (λv=>ah v w (gM p.id p.len p.h0 p.h1 p.h2 p.h3) 50) ρB (λ_ kx=>(JE.trans kx ρc)) ?_;rintro v3 V3 JI;replace rV:=V3.r;refine ZO (v:=χ #[φ (gM p.id p.len p.h0 p.h1 p.h2 p.h3),Kz]) (by simp[results,Tryz.results259,go_sem,rV.1]) rfl ⟨rfl,JI.below (ZR _) (λ_ _ f=>f)⟩
theorem Gf (R S c f n:Nat)(ps:List PK)(p:PK)(w:ϖ)(H:bz w R S c f n ps)(h0:0<n)(hk:ps[f]?=some p):Calls Ψ 217 #[R] w λe w'=>e=ϰ (χ #[φ (gM p.id p.len p.h0 p.h1 p.h2 p.h3),Kz])/\bz w' R S c ((f+1) % c) (n - 1) (ps.set f PK.zero)/\KO (λx=>x=R\/x=S) w w':=by
 have G:=H;obtain⟨R',S',hl,hf,hn,hc⟩:=H;have SJ:=dX R' S' ρf;have nSR:=SJ.symm;have zR0:=R'.size;have XM:=S'.size;have MG:f<ps.length:=ρa;have i0:(0:Int)<=(f:Int):=ρa;have i1:(f:Int)<(c:Int):=ρa;have Rr:=θ2 R'.r S'.r;go_in;go_wp2_with fail;refine pw (θ4 (Ks (λx=>x=R\/x=S) w) R' S' G) (λv=>ah v w (gM 0 0 0 0 0 0) 50) ρB ?_;clear Rr;rintro v1 V1 ⟨I',Po,KC,G1⟩ Rr;replace rV:=V1.r;refine(CI R S c f n ps p _ G1 h0 hk).mono ?_;rintro e v2 ⟨rfl,kx⟩;clear Rr;obtain⟨⟨Zl,LJ,G2,V2,JE⟩,Rr⟩:=Mx kx (θ5 Po KC G1 V1 I');replace rV:=V2.r;clear kx;go_upto_region 5 with (fail);refine jf (θ5 JE Zl LJ G2 V2) (λv=>ah v v2 (gM p.id p.len p.h0 p.h1 p.h2 p.h3) 50/\ah v (v2+1) (gM 0 0 0 0 0 0) 50) ⟨ρB,ρB⟩ ?_;clear Rr;rintro v3 ⟨X3,Y3⟩ ⟨JI,Zm,LP,G3,V3⟩ Rr;replace rV:=V3.r;have Ss:=θ2 X3.r Y3.r;have q:=θ5 (ae Zm) (ae LP) (ae V3) (ae X3) (ae Y3);refine Ws 10 (gC ?_);refine bB (θ7 Zm LP G3 V3 X3 Y3 JI) ?_;clear Rr Ss;rintro v4 ⟨R'4,N5,G4,V4,X4,Y4,JJ⟩ Rr;replace rV:=V4.r;clear q Zm LP G3 V3 X3 Y3;have nXS:v2≠S:=by have:=JE.size;omega
 have zv2:=JE.size;refine rD 50 (.tmp 25) (.tmp 24) S (f*6) (bO ps) (tC PK.zero) (bO (ps.set f PK.zero)) 50 ρs ρs ρs ρs N5 (by rw[lQ];simp;omega) (kE ps PK.zero f MG) ρh σg ?_;intro v5 ML kx zx;have R'5:=R'4.ko kx ρj;have V5:=V4.ko kx ρj;have X5:=X4.ko kx ρj;have Y5:=Y4.ko kx ρj;have JP:KO (λx=>x=R\/x=S) w v5:=JJ.trans kx σp;replace rV:=V5.r;replace Rr:=θ4 R'5.r ML.r X5.r Y5.r;clear kx;go_wp2_with fail;refine sf (θ6 JP R'5 ML V5 X5 Y5) ?_;clear Rr;rintro v6 ⟨JT,R'6,Oj,V6,X6,Y6⟩ Rr;replace rV:=V6.r;have G6:bz v6 R S c f n (ps.set f PK.zero):=⟨R'6,Oj,by simp[hl],hf,hn,hc⟩;refine(oW R S c f n 1 _ _ G6 ρa).mono ?_;rintro e v7 ⟨rfl,kx⟩;clear Rr;obtain⟨⟨R'7,Si,V7,X7,Y7,J7⟩,Rr⟩:=Mx kx (θ6 R'6 Oj V6 X6 Y6 JT);replace rV:=V7.r;clear kx;obtain⟨g,eg⟩:=Nq ((f+1) % c);rw[eg];have Eg:=ag eg;clear eg;have bn:(n:Int)<=64:=ρa;have b0:(1:Int)<=(n:Int):=ρa;go_upto_region 8 with (fail);refine ii v7 (λx=>x=R) (λv=>ah v (R) #[ζ S c c,ι ε (g:Nat),ι ε ((n:Int) - 1)] 326/\ah v (S) (bO (ps.set f PK.zero)) 50/\ah v w (gM 0 0 0 0 0 0) 50/\ah v v2 (gM p.id p.len p.h0 p.h1 p.h2 p.h3) 50/\ah v (v2+1) (gM 0 0 0 0 0 0) 50) ⟨ρB,ρB,ρB,ρB,ρB⟩ (λ_ kx=>(J7.trans kx σp)) ?_;rintro v8 ⟨R'8,QO,V8,X8,Y8⟩ Ka;replace rV:=V8.r;replace Rr:=θ4 R'8.r QO.r X8.r Y8.r;go_wp2_with fail;refine eD v8 (λx=>x=w.heap.size) (λv=>ah v (R) #[ζ S c c,ι ε (g:Nat),ι ε ((n:Int) - 1)] 326/\ah v (S) (bO (ps.set f PK.zero)) 50/\ah v w (gM p.id p.len p.h0 p.h1 p.h2 p.h3) 50) ⟨ρB,ρB,ρB⟩ (λ_ kx=>(Ka.trans kx σp)) ?_;rintro v9 ⟨R'9,S'9,V9⟩ Km;replace rV:=V9.r;replace Rr:=θ2 R'9.r S'9.r;refine ZO (v:=χ #[φ (gM p.id p.len p.h0 p.h1 p.h2 p.h3),Kz]) (by simp[results,Tryz.results217,go_sem,rV.1]) rfl ⟨rfl,⟨by rw[Eg.out,show ((n - 1:Nat):Int)=(n:Int) - 1 by omega];exact R'9,S'9,by simp[hl],Nat.mod_lt _ ρa,by omega,hc⟩,Km⟩
theorem qd (c:Nat):dV (List.replicate c PK.zero)=(madeCells (gM 0 0 0 0 0 0) (c*6)).toList:=by
 induction c with
 | zero=>simp[dV,madeCells]
 | succ c ih=>
  rw[List.replicate_succ'];have happ:∀(a b:List PK),dV (a++b)=dV a++dV b:=by
   intro a b
   induction a with
   | nil=>rfl
   | cons x r ih2=>simp only[List.cons_append,dV,ih2,List.append_assoc]
  rw[happ,ih];unfold madeCells;rw[show (c+1)*6=c*6+6 by omega];apply List.ext_getElem?;intro i;by_cases hi:i<c*6
  ·rw[List.getElem?_append_left τk];simp[hi,show i<c*6+6 by omega]
  ·rw[List.getElem?_append_right ρJ];simp only[Array.length_toList,Array.size_map,Array.size_range,dV,ZA,PK.zero];by_cases hj:i<c*6+6
   ·obtain⟨j,rfl⟩:∃j,i=c*6+j:=⟨i - c*6,by omega⟩;have hj6:j<6:=ρa;simp only[Nat.add_sub_cancel_left,Array.getElem?_toList,Array.getElem?_map,Array.getElem?_range,hj,if_true,Option.map_some];have hm:(c*6+j) % 6=j:=ρa;rcases(by omega:j=0\/j=1\/j=2\/j=3\/j=4\/j=5) with rfl|rfl|rfl|rfl|rfl|rfl<;>simp[hm]
   ·rw[List.getElem?_eq_none ρJ,List.getElem?_eq_none ρJ]
theorem Ge (c:Nat)(w:ϖ)(h1:1<=c)(h2:c<=64):Calls Ψ 152 #[ι ε c] w λe w'=>e=ϰ (χ #[ψ (some ⟨w+1,0,none⟩),Kz])/\bz w' (w+1) w c 0 0 (List.replicate c PK.zero)/\Below w w w':=by
 have d1:=df ((c:Int)<1);have d2:=df (64<(c:Int));have hf:bO (List.replicate c PK.zero)=madeCells (gM 0 0 0 0 0 0) (c*6):=by unfold bO;rw[qd]
 obtain⟨i,hi,Ra,J3,KN⟩:=info_parts (P:=Ψ) (e:=50) (z:=φ (gM 0 0 0 0 0 0)) (size:=6) (bytes:=24) ρh;have hmk:∀v:ϖ,(Instr.makeSlice 324 (ι ε c) (ι ε c)).run Ψ v=.ok (ζ v c c) (v.alloc (.cells (bO (List.replicate c PK.zero)) 50)):=λv=>by have:=run_makeSlice (P:=Ψ) v 324 50 i _ Tryz.underlying324 hi Ra .i64 .i64 c c ρa ρa (by rw[J3];simp;omega) (by rw[KN];omega) ρa;rw[J3] at this;simp only[Int.toNat_natCast,Value.cells] at this;rw[hf];exact this
 have Hf:=ag hf;clear hf hi Ra J3 KN;obtain⟨z,ez⟩:=Nq (bO (List.replicate c PK.zero));rw[ez] at hmk;have Ez:=ag ez;clear ez;go_in;go_wp2;go_ret2;exact⟨rfl,⟨show ah _ _ #[ζ w c c,Kz,Kz] _ from ρB,by rw[Ez.out];(repeat' (first|(with_reducible (first|assumption|exact ah.alloc_new _ _ _ ρ3|apply ah.drewN|apply ah.drew|apply ah.alloc_old|apply ah.set_same|apply ah.set_other))|(show (_:Nat)≠_;first|omega|(simp;done)|(simp;omega))|((simp only[List.setIfInBounds_toArray,List.set_cons_succ,List.set_cons_zero]);(with_reducible exact rfl))|(with_reducible exact rfl)|(show (_:Array ϗ)=_;exact rfl))),by simp,by omega,by omega,h2⟩,ρE⟩
def aA:List PK->Int
 | []=>0
 | p::r=>p.len+aA r
def av:List PK->Int
 | []=>0
 | p::_=>p.len
def aY (w:ϖ)(B:Nat)(JW:Int)(c:Nat)(l:List PK)(fp:Nat->Prop):Prop:=∃(R S f:Nat)(ps:List PK)(k0 k1 k2 k3 k4 k5:Int),ah w B #[R,ι ε JW,ι ε (aA l),(k0),(k1),(k2),(k3),(k4),(k5)] 281/\bz w R S c f l.length ps/\(∀i,i<l.length->ps[(f+i) % c]?=l[i]?)/\(∀p ∈ l,1<=p.len/\p.len<=16384)/\(aA l<=JW/\1<=JW/\JW<=1048576)/\fp B/\fp R/\fp S/\(∀x,fp x->x<w.heap.size)
theorem bz.ko {w w':ϖ} {F:Nat->Prop} {R S c f n:Nat} {ps:List PK} (H:bz w R S c f n ps)(k:KO F w w')(h1:¬F R)(h2:¬F S):bz w' R S c f n ps:=⟨H.1.ko k h1,H.2.1.ko k h2,H.2.2⟩
theorem aY.ko {w w':ϖ} {F:Nat->Prop} {B:Nat} {JW:Int} {c:Nat} {l:List PK} {fp:Nat->Prop} (h:aY w B JW c l fp)(k:KO F w w')(hF:∀x,fp x->¬F x):aY w' B JW c l fp:=by obtain⟨R,S,f,ps,k0,k1,k2,k3,k4,k5,B',G,h1,h2,h3,h4,h5,h6,h7⟩:=h;exact⟨R,S,f,ps,k0,k1,k2,k3,k4,k5,B'.ko k (hF _ h4),G.ko k (hF _ h5) (hF _ h6),h1,h2,h3,h4,h5,h6,λx hx=>ZB (h7 x hx) k.size⟩
theorem aY.below {w w':ϖ} {B:Nat} {JW:Int} {c:Nat} {l:List PK} {fp:Nat->Prop} (h:aY w B JW c l fp)(k:Below w w w'):aY w' B JW c l fp:=h.ko (KO.of_below (F:=λ_=>False) k) (λ_ _ f=>f)
instance {w B JW c l fp}:Mv (aY w B JW c l fp) w (λv'=>aY v' B JW c l fp):=⟨λk h=>aY.below h k⟩
def kV (w w':ϖ)(B:Nat)(JW:Int)(c:Nat)(l:List PK)(fp:Nat->Prop):Prop:=aY w' B JW c l fp/\KO fp w w'
theorem tF (B:Nat)(JW:Int)(c:Nat)(l:List PK)(fp:Nat->Prop)(w:ϖ)(H:aY w B JW c l fp):Calls Ψ 122 #[B] w λe w'=>e=ϰ (ι ε l.length)/\w=w':=by
 obtain⟨R,S,f,ps,k0,k1,k2,k3,k4,k5,B',G,LS,JS,Su,fB,fR,fS,TY⟩:=H;clear LS JS Su fB fR fS TY;obtain⟨by_,N8⟩:=Nq (aA l);rw[N8] at B';have cB:=B'.cell;have fB:=B'.frozen;have zB:=B'.size;go_in;go_wp2_with fail;refine(Gd R S c f l.length ps _ G).mono ?_;rintro e u ⟨rfl,rfl⟩;go_wp2;go_ret;exact⟨rfl,rfl⟩
theorem FJ (B:Nat)(JW:Int)(c:Nat)(l:List PK)(fp:Nat->Prop)(w:ϖ)(H:aY w B JW c l fp):
  CB 220 #[B] w (ι ε (av l)):=by
 have H0:=H;obtain⟨R,S,f,ps,k0,k1,k2,k3,k4,k5,B',G,LS,JS,Su,fB,fR,fS,TY⟩:=H;cases l with
 | nil=>clear LS JS Su fB fR fS TY G B';unfold CB;go_in;go_wp2_with fail;refine(tF B JW c [] fp _ H0).mono ?_;rintro e u ⟨rfl,rfl⟩;simp only[List.length_nil];exact ηP
 | cons p r=>
  obtain⟨-,-,Lc,hf,hn,hc⟩:=id G;have Nf:ps[f]?=some p:=by have:=LS 0 ρp;rw[Nat.add_zero,Nat.mod_eq_of_lt hf] at this;simpa using this
  have HP:=ag Nf;obtain⟨by_,N8⟩:=Nq (aA (p::r));rw[N8] at B';obtain⟨n,en⟩:=Nq ((p::r).length);have n1:1<=n:=by rw[<- en];simp
  have d0:((n:Int)==0)=false:=ρ6;have cLen:∀v,v=w->Calls Ψ 122 #[B] v λe w'=>e=ϰ (ι ε n)/\v=w':=λv hv=>by subst hv;have:=tF B JW c (p::r) fp v H0;rw[en] at this;exact this
  rw[en] at G;clear LS JS Su fB fR fS TY Nf Lc hf hn hc N8 en H0;have cB:=B'.cell;have fB:=B'.frozen;have zB:=B'.size;unfold CB;go_in;go_wp2_with fail;refine(cLen _ rfl).mono ?_;rintro e u ⟨rfl,rfl⟩;clear cLen;go_wp2_with fail;refine(CI R S c f n ps p _ G ρa HP.out).mono ?_;rintro e w1 ⟨rfl,JL⟩;go_wp2;go_ret;exact⟨rfl,JL.trans (Below.mono ρE JL.size)⟩
theorem Ig (c:Nat)(JW:Int)(w:ϖ)(h1:1<=c)(h2:c<=64)(h3:1<=JW)(h4:JW<=1048576):Calls Ψ 123 #[ι ε c,ι ε JW] w λe w'=>∃B:Nat,e=ϰ (χ #[B,Kz])/\(∃fp,aY w' B JW c [] fp/\∀x,fp x->w.heap.size<=x)/\Below w w w':=by
 have d1:=df (JW<1);have d2:=df (1048576<JW);go_in;go_wp2_with fail;refine(Ge c _ h1 h2).mono ?_;rintro e v1 ⟨rfl,G,hb⟩;go_wp2;go_ret2;have zR:=G.1.size;have zS:=G.2.1.size;refine⟨_,rfl,⟨λx=>w.heap.size<=x/\x<=v1,⟨w+1,w,0,_,0,0,0,0,0,0,show ah _ _ #[ψ (some ⟨w+1,0,none⟩),ι ε JW,Kz,Ky,Ky,Ky,Ky,Ky,Ky] _ from ρB,G.below ρE,λi hi=>by simp at hi,λp hp=>by simp at hp,by simp[aA];omega,⟨by omega,by omega⟩,⟨by omega,by omega⟩,⟨by omega,by omega⟩,λx hx=>by simp;omega⟩,λx hx=>hx.1⟩,hb.trans (Below.mono ρE hb.size)⟩
theorem dM {l:List PK} (h:∀p ∈ l,1<=p.len/\p.len<=16384):0<=aA l:=by
 induction l with
 | nil=>simp[aA]
 | cons p r ih=>have:=h p ρp;have:=ih (λq hq=>h q (by simp[hq]));simp only[aA];omega
theorem jl (l:List PK)(p:PK):aA (l++[p])=aA l+p.len:=by
 induction l with
 | nil=>simp[aA]
 | cons q r ih=>simp only[List.cons_append,aA,ih];omega
theorem xW {f i j c:Nat} (hf:f<c)(hij:i<j)(hj:j<c):(f+i) % c≠(f+j) % c:=by
 intro h;rcases Nat.lt_or_ge (f+i) c with h1|h1
 ·rw[Nat.mod_eq_of_lt h1] at h;rcases Nat.lt_or_ge (f+j) c with h2|h2
  ·rw[Nat.mod_eq_of_lt h2] at h;omega
  ·rw[Nat.mod_eq_sub_mod h2,Nat.mod_eq_of_lt ρa] at h;omega
 ·rw[Nat.mod_eq_sub_mod h1,Nat.mod_eq_of_lt ρa,Nat.mod_eq_sub_mod (by omega:f+j≥c),Nat.mod_eq_of_lt ρa] at h;omega
theorem wB {f c:Nat} {l ps:List PK} {p:PK} (LS:∀i,i<l.length->ps[(f+i) % c]?=l[i]?)(hf:f<c)(NK:l.length<c)(Lc:ps.length=c):∀i,i<(l++[p]).length->(ps.set ((f+l.length) % c) p)[(f+i) % c]?=(l++[p])[i]?:=by
 intro i hi;rw[ZL,sg] at hi;rw[List.getElem?_set];rcases Nat.lt_or_ge i l.length with h|h
 ·rw[ZI (xW hf h NK).symm,LS i h,List.getElem?_append_left h]
 ·have:i=l.length:=by omega
  subst this;rw[ZP rfl,ZP (by rw[Lc];exact Nat.mod_lt _ ρa),List.getElem?_append_right (ZR _)];simp
theorem yM {f c n:Nat} {p:PK} {r ps:List PK} (LS:∀i,i<(p::r).length->ps[(f+i) % c]?=(p::r)[i]?)(hf:f<c)(hn:n<=c)(Lc:ps.length=c)(en:n - 1=r.length)(n1:1<=n):∀i,i<r.length->(ps.set f PK.zero)[((f+1) % c+i) % c]?=r[i]?:=by
 intro i hi;have e:((f+1) % c+i) % c=(f+(i+1)) % c:=by rw[Nat.mod_add_mod];congr 1;omega
 have JX:f≠(f+(i+1)) % c:=by have:=xW (f:=f) (i:=0) (j:=i+1) (c:=c) hf ρa ρa;rwa [Nat.add_zero,Nat.mod_eq_of_lt hf] at this
 rw[e,List.getElem?_set,ZI JX,LS (i+1) ρJ];simp
theorem qG (B:Nat)(JW:Int)(c:Nat)(l:List PK)(p:PK)(fp:Nat->Prop)(w:ϖ)(H:aY w B JW c l fp)(Lh:1<=p.len)(Vi:p.len<=16384)(hb:JW - aA l<p.len):Calls Ψ 127 #[B,FG p] w λe w'=>e=ϰ (ι ε 30)/\kV w w' B JW c l fp:=by
 obtain⟨R,S,f,ps,k0,k1,k2,k3,k4,k5,B',G,LS,JS,Su,fB,fR,fS,TY⟩:=H;obtain⟨RB,SB,Lc,hf,hn,hc⟩:=id G;refine δT ?_;intro nBR nBS SJ Uv zR0 XM;obtain⟨by_,N8⟩:=Nq (aA l);have TN:=ag N8;rw[N8] at B' Su;have d1:=df (p.len<1);have d2:=df (16384<p.len);have d3:decide (JW - by_<p.len)=true:=ZT (by have:=TN.out;omega);have bb0:0<=by_:=by rw[<- N8];exact dM JS
 have ws:IntKind.i64.wrap (JW - by_)=JW - by_:=IntWalk.i64_in _ ρa;clear N8 RB SB;have Rr:=B'.r;go_in;go_upto_region 5 with (fail);refine jf (θ3 (Ks fp w) B' G) (λv=>ah v w (tC p) 50) ρB ?_;clear Rr;rintro v1 X1 ⟨I',Lj,G1⟩ Rr;have Ss:=X1.r;have q:=θ2 (ae Lj) (ae X1);refine Wq ?_;refine nZ ?_;refine bB (θ4 Lj G1 X1 I') ?_;clear Rr Ss;rintro v2 ⟨KX,G2,X2,JE⟩ Rr;clear q Lj G1 X1;go_upto_region 7 with (fail);refine ii v2 (λx=>x=B) (λv=>ah v (B) #[R,ι ε JW,ι ε (by_),(k0),(k1),ι υ (IntKind.u64.wrap (k2+1)),(k3),(k4),(k5)] 281/\ah v w (tC p) 50) ⟨ρB,ρB⟩ (λ_ kx=>θ2 (JE.trans kx ρl) (G2.ko kx ρj ρj)) ?_;rintro v3 ⟨KK,X3⟩ ⟨JI,G3⟩;replace Rr:=θ2 KK.r X3.r;refine bK (θ4 JI KK G3 X3) ?_;clear Rr;rintro v4 ⟨JJ,Lq,G4,X4⟩ Rr;have q:=θ2 (ae Lq) (ae X4);refine Ws 12 (gC ?_);refine bB (θ4 Lq G4 X4 JJ) ?_;clear Rr;rintro v5 ⟨LI,G5,X5,JP⟩ Rr;clear q Lq G4 X4;go_wp2;go_ret;refine⟨rfl,⟨R,S,f,ps,_,_,_,_,_,_,by rw[TN.out];(repeat' (first|(with_reducible (first|assumption|exact ah.alloc_new _ _ _ ρ3|apply ah.drewN|apply ah.drew|apply ah.alloc_old|apply ah.set_same|apply ah.set_other))|(show (_:Nat)≠_;first|omega|(simp;done)|(simp;omega))|((simp only[List.setIfInBounds_toArray,List.set_cons_succ,List.set_cons_zero]);(with_reducible exact rfl))|(with_reducible exact rfl)|(show (_:Array ϗ)=_;exact rfl))),G5.ko (show KO (λx=>x=B) _ _ from ρK) ρj ρj,LS,JS,by rw[TN.out];exact Su,fB,fR,fS,λx hx=>ZB (TY x hx) (by simp;exact JP.size)⟩,JP.trans (show KO (λx=>x=B) _ _ from ρK) ρl⟩
theorem tG (B:Nat)(JW:Int)(c:Nat)(l:List PK)(p:PK)(fp:Nat->Prop)(w:ϖ)(H:aY w B JW c l fp)(Lh:1<=p.len)(Vi:p.len<=16384)(hb:p.len<=JW - aA l)(Yp:l.length=c):Calls Ψ 127 #[B,FG p] w λe w'=>e=ϰ (ι ε 30)/\kV w w' B JW c l fp:=by
 obtain⟨R,S,f,ps,k0,k1,k2,k3,k4,k5,B',G,LS,JS,Su,fB,fR,fS,TY⟩:=H;obtain⟨RB,SB,Lc,hf,hn,hc⟩:=id G;refine δT ?_;intro nBR nBS SJ Uv zR0 XM;obtain⟨by_,N8⟩:=Nq (aA l);have TN:=ag N8;rw[N8] at B' Su;have d1:=df (p.len<1);have d2:=df (16384<p.len);have d3:decide (JW - by_<p.len)=false:=ZF (by have:=TN.out;omega);have bb0:0<=by_:=by rw[<- N8];exact dM JS
 have ws:IntKind.i64.wrap (JW - by_)=JW - by_:=IntWalk.i64_in _ ρa;clear N8 RB SB;have Rr:=B'.r;go_in;go_upto_region 5 with (fail);refine jf (θ3 (Ks fp w) B' G) (λv=>ah v w (tC p) 50) ρB ?_;clear Rr;rintro v1 X1 ⟨I',Lj,G1⟩ Rr;have Ss:=X1.r;have q:=θ2 (ae Lj) (ae X1);refine Ws 18 (gC ?_);refine bB (θ4 Lj G1 X1 I') ?_;clear Rr Ss;rintro v2 ⟨KX,G2,X2,JE⟩ Rr;clear q Lj G1 X1;go_wp2_with fail;refine Zc (θ4 JE KX G2 X2) ?_;rintro v3 ⟨JI,KK,G3,X3⟩;refine(qU R S c f l.length ps p _ G3 Yp).mono ?_;rintro e v4 ⟨rfl,kx⟩;clear Rr;obtain⟨⟨Lq,G4,X4,JJ⟩,Rr⟩:=Mx kx (θ4 KK G3 X3 JI);clear kx;go_upto_region 7 with (fail);refine ii v4 (λx=>x=B) (λv=>ah v (B) #[R,ι ε JW,ι ε (by_),(k0),(k1),ι υ (IntKind.u64.wrap (k2+1)),(k3),(k4),(k5)] 281/\ah v w (tC p) 50) ⟨ρB,ρB⟩ (λ_ kx=>θ2 (JJ.trans kx ρl) (G4.ko kx ρj ρj)) ?_;rintro v5 ⟨LI,X5⟩ ⟨JP,G5⟩;replace Rr:=θ2 LI.r X5.r;refine bK (θ4 JP LI G5 X5) ?_;clear Rr;rintro v6 ⟨JT,O7,G6,X6⟩ Rr;have q:=θ2 (ae O7) (ae X6);refine Ws 12 (gC ?_);refine bB (θ4 O7 G6 X6 JT) ?_;clear Rr;rintro v7 ⟨Pk,G7,X7,J7⟩ Rr;clear q O7 G6 X6;go_wp2;go_ret;refine⟨rfl,⟨R,S,f,ps,_,_,_,_,_,_,by rw[TN.out];(repeat' (first|(with_reducible (first|assumption|exact ah.alloc_new _ _ _ ρ3|apply ah.drewN|apply ah.drew|apply ah.alloc_old|apply ah.set_same|apply ah.set_other))|(show (_:Nat)≠_;first|omega|(simp;done)|(simp;omega))|((simp only[List.setIfInBounds_toArray,List.set_cons_succ,List.set_cons_zero]);(with_reducible exact rfl))|(with_reducible exact rfl)|(show (_:Array ϗ)=_;exact rfl))),G7.ko (show KO (λx=>x=B) _ _ from ρK) ρj ρj,LS,JS,by rw[TN.out];exact Su,fB,fR,fS,λx hx=>ZB (TY x hx) (by simp;exact J7.size)⟩,J7.trans (show KO (λx=>x=B) _ _ from ρK) ρl⟩
theorem yq (B:Nat)(JW:Int)(c:Nat)(l:List PK)(p:PK)(fp:Nat->Prop)(w:ϖ)(H:aY w B JW c l fp)(Lh:1<=p.len)(Vi:p.len<=16384)(hb:p.len<=JW - aA l)(NK:l.length<c):Calls Ψ 127 #[B,FG p] w λe w'=>e=ϰ Kz/\kV w w' B JW c (l++[p]) fp:=by
 obtain⟨R,S,f,ps,k0,k1,k2,k3,k4,k5,B',G,LS,JS,Su,fB,fR,fS,TY⟩:=H;obtain⟨RB,SB,Lc,hf,hn,hc⟩:=id G;refine δT ?_;intro nBR nBS SJ Uv zR0 XM;obtain⟨by_,N8⟩:=Nq (aA l);have TN:=ag N8;rw[N8] at B' Su;have d1:=df (p.len<1);have d2:=df (16384<p.len);have d3:decide (JW - by_<p.len)=false:=ZF (by have:=TN.out;omega);have bb0:0<=by_:=by rw[<- N8];exact dM JS
 have ws:IntKind.i64.wrap (JW - by_)=JW - by_:=IntWalk.i64_in _ ρa;clear N8 RB SB;have Rr:=B'.r;go_in;go_upto_region 5 with (fail);refine jf (θ3 (Ks fp w) B' G) (λv=>ah v w (tC p) 50) ρB ?_;clear Rr;rintro v1 X1 ⟨I',Lj,G1⟩ Rr;have Ss:=X1.r;have Nj:=ae Lj;have qX:=ae X1;refine Ws 18 (gC ?_);refine bB (θ4 Lj G1 X1 I') ?_;clear Rr Ss;rintro v2 ⟨KX,G2,X2,JE⟩ Rr;clear Nj qX Lj G1 X1;go_wp2_with fail;refine Zc (θ4 JE KX G2 X2) ?_;rintro v3 ⟨JI,KK,G3,X3⟩;refine(wA R S c f l.length ps p _ G3 NK).mono ?_;rintro e v4 ⟨rfl,G4,kx⟩;have Lq:=KK.ko kx ρj;have X4:=X3.ko kx ρj;have JJ:KO fp w v4:=JI.trans kx ρl;replace Rr:=θ2 Lq.r X4.r;clear kx;go_upto_region 9 with (fail);refine bK (θ4 JJ Lq G4 X4) ?_;clear Rr;rintro v5 ⟨JP,LI,G5,X5⟩ Rr;have Nj:=ae LI;have qX:=ae X5;refine Ws 9 (gC ?_);refine bB (θ4 LI G5 X5 JP) ?_;clear Rr;rintro v6 ⟨O7,G6,X6,JT⟩ Rr;clear Nj qX LI G5 X5;go_upto_region 11 with (fail);refine ii v6 (λx=>x=B) (λv=>ah v (B) #[R,ι ε JW,ι ε (by_+p.len),ι υ (IntKind.u64.wrap (k0+1)),(k1),(k2),(k3),(k4),(k5)] 281/\ah v w (tC p) 50) ⟨ρB,ρB⟩ (λ_ kx=>θ2 (JT.trans kx ρl) (G6.ko kx ρj ρj)) ?_;rintro v7 ⟨Pk,X7⟩ ⟨J7,G7⟩;replace Rr:=θ2 Pk.r X7.r;refine bK (θ4 J7 Pk G7 X7) ?_;clear Rr;rintro v8 ⟨Ka,QN,G8,X8⟩ Rr;have Nj:=ae QN;have qX:=ae X8;refine Ws 12 (gC ?_);refine bB (θ4 QN G8 X8 Ka) ?_;clear Rr;rintro v9 ⟨PR,G9,X9,Km⟩ Rr;clear Nj qX QN G8 X8;go_wp2;go_ret;refine⟨rfl,⟨R,S,f,_,_,_,_,_,_,_,by rw[jl,TN.out];(repeat' (first|(with_reducible (first|assumption|exact ah.alloc_new _ _ _ ρ3|apply ah.drewN|apply ah.drew|apply ah.alloc_old|apply ah.set_same|apply ah.set_other))|(show (_:Nat)≠_;first|omega|(simp;done)|(simp;omega))|((simp only[List.setIfInBounds_toArray,List.set_cons_succ,List.set_cons_zero]);(with_reducible exact rfl))|(with_reducible exact rfl)|(show (_:Array ϗ)=_;exact rfl))),by rw[ZL];exact G9.ko (show KO (λx=>x=B) _ _ from ρK) ρj ρj,wB LS hf NK Lc,λq hq=>(ZM.1 hq).elim (JS q) (λh=>by simp at h;subst h;exact⟨Lh,Vi⟩),by have:=TN.out;rw[jl];omega,fB,fR,fS,λx hx=>ZB (TY x hx) (by simp;exact Km.size)⟩,Km.trans (show KO (λx=>x=B) _ _ from ρK) ρl⟩
theorem Ii (B:Nat)(JW:Int)(c:Nat)(p:PK)(r:List PK)(fp:Nat->Prop)(w:ϖ)(H:aY w B JW c (p::r) fp):Calls Ψ 161 #[B] w λe w'=>e=ϰ (χ #[φ (gM p.id p.len p.h0 p.h1 p.h2 p.h3),Kz])/\kV w w' B JW c r fp:=by
 obtain⟨R,S,f,ps,k0,k1,k2,k3,k4,k5,B',G,LS,JS,Su,fB,fR,fS,TY⟩:=H;obtain⟨RB,SB,Lc,hf,hn,hc⟩:=id G;refine δT ?_;intro nBR nBS SJ Uv zR0 XM;have Nf:ps[f]?=some p:=by have:=LS 0 ρp;rw[Nat.add_zero,Nat.mod_eq_of_lt hf] at this;simpa using this
 have hpl1:=JS p ρp;have Ns:=dM (λq hq=>JS q (sA _ hq));obtain⟨by_,N8⟩:=Nq (aA (p::r));have er:aA r=by_ - p.len:=by rw[<- N8];simp only[aA];omega
 have TN:=ag N8;have Er:=ag er;rw[N8] at B' Su;rw[er] at Ns;obtain⟨n,en⟩:=Nq ((p::r).length);have n1:1<=n:=by rw[<- en];simp
 have En:=ag (show n - 1=r.length by rw[<- en];simp);rw[en] at G hn;have HP:=ag Nf;clear N8 er Nf en;clear RB SB;have Rr:=B'.r;go_in;go_wp2_with fail;refine pw (θ3 (Ks fp w) B' G) (λv=>ah v w (gM 0 0 0 0 0 0) 50) ρB ?_;clear Rr;rintro v1 V1 ⟨I',Lj,G1⟩ Rr;replace rV:=V1.r;refine(Gf R S c f n ps p _ G1 ρa HP.out).mono ?_;rintro e v2 ⟨rfl,G2,kx⟩;have KX:=Lj.ko kx ρj;have V2:=V1.ko kx ρj;have JE:KO fp w v2:=I'.trans kx ρl;replace rV:=V2.r;replace Rr:=KX.r;clear kx;have zv2:=JE.size;go_upto_region 6 with (fail);refine jf (θ4 JE KX G2 V2) (λv=>ah v v2 (gM p.id p.len p.h0 p.h1 p.h2 p.h3) 50) ρB ?_;clear Rr;rintro v3 X3 ⟨JI,KK,G3,V3⟩ Rr;replace rV:=V3.r;have Ss:=X3.r;have Nj:=ae KK;have qV:=ae V3;have qX:=ae X3;refine Ws 9 (gC ?_);refine bB (θ5 KK G3 V3 X3 JI) ?_;clear Rr Ss;rintro v4 ⟨Lq,G4,V4,X4,JJ⟩ Rr;replace rV:=V4.r;clear Nj qV qX KK G3 V3 X3;go_upto_region 8 with (fail);refine ii v4 (λx=>x=B) (λv=>ah v (B) #[R,ι ε JW,ι ε (by_ - p.len),(k0),ι υ (IntKind.u64.wrap (k1+1)),(k2),(k3),(k4),(k5)] 281/\ah v w (gM 0 0 0 0 0 0) 50/\ah v v2 (gM p.id p.len p.h0 p.h1 p.h2 p.h3) 50) ⟨ρB,ρB,ρB⟩ (λ_ kx=>θ2 (JJ.trans kx ρl) (G4.ko kx ρj ρj)) ?_;rintro v5 ⟨LI,V5,X5⟩ ⟨JP,G5⟩;replace rV:=V5.r;replace Rr:=θ2 LI.r X5.r;have Nj:=ae LI;have qV:=ae V5;have qX:=ae X5;refine Ws 12 (gC ?_);refine bB (θ5 LI G5 V5 X5 JP) ?_;clear Rr;rintro v6 ⟨O7,G6,V6,X6,JT⟩ Rr;replace rV:=V6.r;clear Nj qV qX LI G5 V5 X5;go_upto_region 9 with (fail);refine ii v6 (λx=>x=B) (λv=>ah v (B) #[R,ι ε JW,ι ε (by_ - p.len),(k0),ι υ (IntKind.u64.wrap (k1+1)),(k2),(k3),ι υ (IntKind.u64.wrap (k4+p.len)),(k5)] 281/\ah v w (gM 0 0 0 0 0 0) 50/\ah v v2 (gM p.id p.len p.h0 p.h1 p.h2 p.h3) 50) ⟨ρB,ρB,ρB⟩ (λ_ kx=>θ2 (JT.trans kx ρl) (G6.ko kx ρj ρj)) ?_;rintro v8 ⟨QN,V8,X8⟩ ⟨Ka,G8⟩;replace rV:=V8.r;replace Rr:=θ2 QN.r X8.r;go_wp2_with fail;refine eD v8 (λx=>x=w.heap.size) (λv=>ah v (B) #[R,ι ε JW,ι ε (by_ - p.len),(k0),ι υ (IntKind.u64.wrap (k1+1)),(k2),(k3),ι υ (IntKind.u64.wrap (k4+p.len)),(k5)] 281/\ah v w (gM p.id p.len p.h0 p.h1 p.h2 p.h3) 50) ⟨ρB,ρB⟩ (λ_ kx=>θ2 (Ka.trans kx ρl) (G8.ko kx ρj ρj)) ?_;rintro v9 ⟨PR,V9⟩ ⟨Km,G9⟩;replace rV:=V9.r;replace Rr:=PR.r;refine ZO (v:=χ #[φ (gM p.id p.len p.h0 p.h1 p.h2 p.h3),Kz]) (by simp[results,Tryz.results161,go_sem,rV.1]) rfl ⟨rfl,⟨R,S,(f+1) % c,_,_,_,_,_,_,_,by rw[Er.out];exact PR,by rw[<- En.out];exact G9,yM LS hf hn Lc En.out n1,λq hq=>JS q (sA _ hq),by rw[Er.out];omega,fB,fR,fS,λx hx=>ZB (TY x hx) Km.size⟩,Km⟩
structure Lf (m d n now:Int) (l:LF) (h:Int):Prop where
 rng:0<=l.p/\l.p<=1099511627776
 hh:0<=h/\h<=16384
 lk:l.has=true->LK m d n now l.D l.E
 hs:0<h->l.has=true/\l.e=l.E.reach (l.p*65536)/\l.t=l.D.reach ((l.p+h)*65536)
theorem Lf.later {m d n now now':Int} {l:LF} {h:Int} (H:Lf m d n now l h)(hn:now<=now'):Lf m d n now' l h:=⟨H.rng,H.hh,λe=>(H.lk e).later hn,H.hs⟩
theorem Lf.et {m d n now:Int} (hc:cV m d n) {l:LF} {h:Int} (H:Lf m d n now l h)(h0:0<h):l.e<=l.t:=by obtain⟨h1,h2,h3⟩:=H.hs h0;have:=H.rng;rw[h2,h3];exact(H.lk h1).pair.elig hc ρa ρa
def Cs (m d n:Int)(l:LF)(h dl t0 p0:Int):Prop:=
 (h=0/\l.p=p0)\/(l.has=true/\t0<=dl/\(∀v,0<=v->l.D.reach v<=dl->v<=p0*65536+sv m d n (dl - t0))/\(l.p - p0)*65536<=sv m d n (dl - t0))\/(0<h/\l.p=p0/\dl<l.t)
section
variable {m d n now:Int} {l:LF} {h dl t0 p0:Int}
theorem kt (hc:cV m d n) {t:Int} (ht:0<=t):0<=sv m d n t:=(mA (by have:=hc.2.1;omega) hc.2.2.1.1 (by have:=hc.2.2.2;omega) ht).1
theorem nr (hc:cV m d n)(H:Lf m d n now l h)(hn:0<=now/\now<=t0)(ht:t0<=Mb)(hd:dl<=Mb)(he:0<h->t0<l.e):Cs m d n l h dl t0 l.p:=by
 have hr:=H.rng;by_cases h0:h=0
 ·exact .inl ⟨h0,rfl⟩
 have h0:0<h:=by have:=H.hh;omega
 obtain⟨h1,h2,h3⟩:=H.hs h0;have g:=H.et hc h0;have he:=he h0;by_cases JM:dl<t0
 ·exact .inr (.inr ⟨h0,rfl,by omega⟩)
 ·refine .inr (.inl ⟨h1,by omega,λv Ts hv=>?_,?_⟩)
  ·have K:=H.lk h1;have e1:=(RN.reach_iff (x:=dl) K.pair.1 Ts ρa ρa).1 hv;have e2:=K.rise hc hn.1 hn.2 (show t0<=dl by omega) hd;have e3:=RN.reach_iff (x:=t0) K.pair.2.1 (W:=l.p*65536) ρa ρa ρa;rw[<- h2] at e3;have:¬l.p*65536<=l.E.at t0:=λq=>by have:=e3.2 q;omega
   omega
  ·have:=kt hc (t:=dl - t0) ρa;omega
theorem yh (hc:cV m d n)(H:Lf m d n now l 0)(hn:0<=now/\now<=4611686018427387904)(ht:t0<=now)(hd:Aw dl)(h1:0<h/\h<=16384) {l':LF} (e1:l'.has=true)(e2:l'.p=l.p)
  (e3:l'.D=if l.has then RN.meet l.D (WN.start m d n ⟨now,l.p⟩) else WN.start m d n ⟨now,l.p⟩) (e4:l'.t=l'.D.reach ((l'.p+h)*65536)) (sm:l'.D.small) (O:Cs m d n l 0 dl t0 p0):Cs m d n l' h dl t0 p0:=by
 have hr:=H.rng;have hv:WN.ok ⟨now,l.p⟩:=by unfold WN.ok vk;simp only[];omega
 have up:l'.D.at dl<=l.p*65536+sv m d n (max (dl - now) 0):=by
  rw[e3];rcases hh:l.has with _|_
  ·rw[ZI ρp,rx hc _ hv hd.2];exact ZJ _
  ·rw[ZP rfl];exact(H.lk hh).new hc ⟨now,l.p⟩ hv hd.2
 rcases O with ⟨_,hp⟩|⟨g1,g2,g3,g4⟩|⟨g1,_⟩
 ·by_cases JM:dl<now
  ·refine .inr (.inr ⟨h1.1,by omega,?_⟩);have i:=RN.reach_iff (x:=dl) sm (W:=(l'.p+h)*65536) ρa hd.1 ρa;rw[<- e4] at i;have hz:sv m d n (max (dl - now) 0)=0:=by
    rw[show max (dl - now) 0=0 by omega];unfold sv;rw[ZP hc.2.2.1.1,Int.mul_zero]
   have:¬l'.t<=dl:=λq=>by have:=i.1 q;omega
   omega
  ·refine .inr (.inl ⟨e1,by omega,λv Ts hvd=>?_,?_⟩)
   ·have:=(RN.reach_iff (x:=dl) sm Ts hd.1 ρa).1 hvd;have mo:=BW (m:=m) (d:=d) (n:=n) (t:=max (dl - now) 0) (u:=dl - t0) hc.2.1.1 hc.2.2.2.1 ρa;omega
   ·have:=kt hc (t:=dl - t0) ρa;omega
 ·refine .inr (.inl ⟨e1,g2,λv Ts hvd=>?_,by rw[e2];exact g4⟩);have hx:=(RN.reach_iff (x:=dl) sm Ts hd.1 ρa).1 hvd;rw[e3,ZP g1] at hx;have K:=H.lk g1;have:=K.old hc ⟨now,l.p⟩ hv (x:=dl) hd.2;simp only[] at this;by_cases c:v<=l.D.at dl
  ·exact g3 v Ts ((RN.reach_iff (x:=dl) K.pair.1 Ts hd.1 ρa).2 c)
  ·omega
 ·omega
theorem yf (H:Lf m d n now l h)(h0:0<h)(hd:l.t<=dl) {l':LF} {h':Int} (e1:l'.has=l.has)(e2:l'.p=l.p+h)(e3:l'.D=l.D)(O:Cs m d n l h dl t0 p0):Cs m d n l' h' dl t0 p0/\t0<=dl:=by
 rcases O with ⟨g,_⟩|⟨g1,g2,g3,g4⟩|⟨_,_,g⟩
 ·omega
 ·refine⟨.inr (.inl ⟨by rw[e1];exact g1,g2,by rw[e3];exact g3,?_⟩),g2⟩;have:=g3 ((l.p+h)*65536) (by have:=H.rng;omega) (by rw[<- (H.hs h0).2.2];exact hd);rw[e2];omega
 ·omega
theorem yg (H:Lf m d n now l h)(h0:0<h)(hd:l.t<=dl)(O:Cs m d n l h dl t0 p0):t0<=dl/\(l.p+h - p0)*65536<=sv m d n (dl - t0):=by
 rcases O with ⟨g,_⟩|⟨g1,g2,g3,g4⟩|⟨_,_,g⟩
 ·omega
 ·have:=g3 ((l.p+h)*65536) (by have:=H.rng;omega) (by rw[<- (H.hs h0).2.2];exact hd);exact⟨g2,by omega⟩
 ·omega
theorem DO (hc:cV m d n)(ht:t0<=dl)(O:Cs m d n l h dl t0 p0):(l.p - p0)*65536<=sv m d n (dl - t0):=by have:=kt hc (t:=dl - t0) ρa;rcases O with ⟨_,g⟩|⟨_,_,_,g⟩|⟨_,g,_⟩<;>omega
end
def cI (f:Int->Int):List Int->Int
 | []=>0
 | i::r=>f i+cI f r
theorem lq {f g:Int->Int}:∀{R:List Int},(∀i ∈ R,f i<=g i)->cI f R<=cI g R
 | [],_=>ZJ _
 | i::r,h=>by have h1:=h i ρp;have h2:=lq (R:=r) (λj hj=>h j (by simp[hj]));simp only[cI];omega
theorem gW {f g:Int->Int} {R:List Int} (h:∀i ∈ R,f i=g i):cI f R=cI g R:=
 Int.le_antisymm (lq λi hi=>by rw[h i hi];exact ZJ _) (lq λi hi=>by rw[h i hi];exact ZJ _)
theorem rF (f:Int->Int)(c:Int):∀R:List Int,cI (λi=>f i*c) R=cI f R*c
 | []=>by simp[cI]
 | i::r=>by simp only[cI,rF f c r,Int.add_mul]
theorem fx {f g:Int->Int} {k x:Int}:∀{R:List Int},R.Nodup->k ∈ R->(∀i ∈ R,i≠k->f i=g i)->f k=g k+x->cI f R=cI g R+x
 | [],_,h,_,_=>by simp at h
 | i::r,hn,hk,he,hx=>by
  rw[ZD] at hn;by_cases e:i=k
  ·subst e;have:cI f r=cI g r:=gW λj hj=>he j (by simp[hj]) (λe=>hn.1 (e ▸ hj));simp only[cI];omega
  ·have hk':k ∈ r:=by rcases ZC.1 hk with h|h;exact az h.symm e;exact h
   have:=fx hn.2 hk' (λj hj=>he j (by simp[hj])) hx;have:=he i ρp e;simp only[cI];omega
theorem ks {f:Int->Int} {R:List Int} (h:∀i ∈ R,f i=0):cI f R=0:=by
 rw[gW (g:=λ_=>0) h]
 induction R with
 | nil=>rfl
 | cons i r ih=>simp only[cI];rw[ih (λj hj=>h j (by simp[hj]))];rfl
def IB (T Lm now:Int)(R:List Int)(c:Int->Int × Int × Int)(l:Int->LF)(h:Int->Int)(dl x:Int):Prop:=
 ∃(t0:Int) (p0:Int->Int),t0<=now/\x<=t0+T*Lm+T*cI (λi=>(l i).p - p0 i) R/\∀i ∈ R,Cs (c i).1 (c i).2.1 (c i).2.2 (l i) (h i) dl t0 (p0 i)
abbrev EW (now:Int)(R:List Int)(c:Int->Int × Int × Int)(l:Int->LF)(h:Int->Int):Prop:=∀i ∈ R,cV (c i).1 (c i).2.1 (c i).2.2/\Lf (c i).1 (c i).2.1 (c i).2.2 now (l i) (h i)
def GS (T:Int)(R:List Int)(c:Int->Int × Int × Int):Prop:=∀t,0<=t->T*cI (λi=>sv (c i).1 (c i).2.1 (c i).2.2 t) R<=65536*t
section
variable {T Lm now:Int} {R:List Int} {c:Int->Int × Int × Int} {l l':Int->LF} {h h':Int->Int} {dl x:Int}
theorem IB.later {now':Int} (H:IB T Lm now R c l h dl x)(hn:now<=now'):IB T Lm now' R c l h dl x:=by obtain⟨t0,p0,h1,h2,h3⟩:=H;exact⟨t0,p0,by omega,h2,h3⟩
theorem IB.less {y:Int} (H:IB T Lm now R c l h dl x)(hy:y<=x):IB T Lm now R c l h dl y:=by obtain⟨t0,p0,h1,h2,h3⟩:=H;exact⟨t0,p0,h1,by omega,h3⟩
theorem IB.reset {now0:Int} (t0:Int)(H:EW now0 R c l h)(h0:0<=now0/\now0<=t0)(ht:t0<=now/\now<=Mb)(hd:dl<=Mb)(he:∀i ∈ R,0<h i->t0<(l i).e)(hx:x<=t0+T*Lm):IB T Lm now R c l h dl x:=by refine⟨t0,λi=>(l i).p,ht.1,?_,λi hi=>nr (H i hi).1 (H i hi).2 h0 ρa hd (he i hi)⟩;rw[ks (λi _=>Int.sub_self _),Int.mul_zero];omega
theorem IB.late {k:Int} (H:EW now R c l h)(hn:Aw now)(hd:dl<=Mb)(hk:dl<(l k).t)(h0:0<h k)(hmin:∀i ∈ R,0<h i->(l i).e<=now->(l k).t<=(l i).t)(LW:∀i,i≠k->l' i=l i/\h' i=h i)
  (e1:(l' k).D=(l k).D) (e2:(l' k).p=(l k).p+h k) (e3:0<=h' k) (e4:0<h' k->(l' k).t=(l' k).D.reach (((l' k).p+h' k)*65536)) (hx:x<=now+T*Lm):IB T Lm now R c l' h' dl x:=by
 refine⟨now,λi=>(l' i).p,ZJ _,?_,λi hi=>?_⟩
 ·rw[ks (λi _=>Int.sub_self _),Int.mul_zero];omega
 ·have Hi:=H i hi;by_cases e:i=k
  ·subst e;by_cases hz:h' i=0
   ·exact .inl ⟨hz,rfl⟩
   ·refine .inr (.inr ⟨by omega,rfl,?_⟩);obtain⟨g1,g2,g3⟩:=Hi.2.hs h0;have:=Hi.2.rng;rw[e4 ρa,e1,e2];rw[g3] at hk;have:=RN.reach_mono (Hi.2.lk g1).pair.1 (W:=((l i).p+h i)*65536) (W':=((l i).p+h i+h' i)*65536) ρa ρa;omega
  ·obtain⟨q1,q2⟩:=LW i e;simp only[];rw[q1,q2];by_cases hz:h i=0
   ·exact .inl ⟨hz,rfl⟩
   have hz:0<h i:=by have:=Hi.2.hh;omega
   by_cases Ug:(l i).e<=now
   ·exact .inr (.inr ⟨hz,rfl,by have:=hmin i hi hz Ug;omega⟩)
   ·exact nr Hi.1 Hi.2 ⟨hn.1,ZJ _⟩ hn.2 hd (λ_=>by omega)
theorem IB.wake {k:Int} (H:EW now R c l h)(hn:0<=now/\now<=4611686018427387904)(hd:Aw dl)(LW:∀i,i≠k->l' i=l i/\h' i=h i)(MG:h k=0)(hk:0<h' k/\h' k<=16384)
  (hW:∀m d n,c k=(m,d,n)->(l' k).has=true/\(l' k).p=(l k).p/\((l' k).D=if (l k).has then RN.meet (l k).D (WN.start m d n ⟨now,(l k).p⟩) else WN.start m d n ⟨now,(l k).p⟩)/\(l' k).t=(l' k).D.reach (((l' k).p+h' k)*65536)/\(l' k).D.small)
  (I:IB T Lm now R c l h dl x):IB T Lm now R c l' h' dl x:=by
 obtain⟨t0,p0,h1,h2,h3⟩:=I;obtain⟨w1,w2,w3,w4,w5⟩:=hW _ _ _ rfl;refine⟨t0,p0,h1,?_,λi hi=>?_⟩
 ·rw[show cI (λi=>(l' i).p - p0 i) R=cI (λi=>(l i).p - p0 i) R from gW λi _=>by
   by_cases e:i=k
   ·subst e;omega
   ·rw[(LW i e).1]]
  exact h2
 ·by_cases e:i=k
  ·subst e;have O:=h3 i hi;have Hi:=H i hi;rw[MG] at O;have L:=Hi.2;rw[MG] at L;exact yh Hi.1 L hn h1 hd hk w1 w2 w3 w4 w5 O
  ·rw[(LW i e).1,(LW i e).2];exact h3 i hi
theorem IB.took {k:Int} (hR:R.Nodup)(hk:k ∈ R)(H:EW now R c l h)(h0:0<h k)(hd:(l k).t<=dl)(LW:∀i,i≠k->l' i=l i/\h' i=h i)(e1:(l' k).has=(l k).has)(e2:(l' k).p=(l k).p+h k)(e3:(l' k).D=(l k).D)(I:IB T Lm now R c l h dl x):IB T Lm now R c l' h' dl (x+T*h k):=by
 obtain⟨t0,p0,h1,h2,h3⟩:=I;refine⟨t0,p0,h1,?_,λi hi=>?_⟩
 ·rw[fx (g:=λi=>(l i).p - p0 i) (k:=k) (x:=h k) hR hk (λi _ e=>by rw[(LW i e).1]) ρa,Int.mul_add];omega
 ·by_cases e:i=k
  ·subst e;exact(yf (H i hi).2 h0 hd e1 e2 e3 (h3 i hi)).1
  ·rw[(LW i e).1,(LW i e).2];exact h3 i hi
theorem IB.done {k:Int} (hT:0<=T)(hA:GS T R c)(hR:R.Nodup)(hk:k ∈ R)(H:EW now R c l h)(h0:0<h k)(hd:(l k).t=dl)(I:IB T Lm now R c l h dl x):x+T*h k<=dl+T*Lm:=by
 obtain⟨t0,p0,h1,h2,h3⟩:=I;obtain⟨w1,w2⟩:=yg (H k hk).2 h0 ρa (h3 k hk);have q:cI (λi=>((l i).p+(if i=k then h k else 0) - p0 i)*65536) R<=cI (λi=>sv (c i).1 (c i).2.1 (c i).2.2 (dl - t0)) R:=lq λi hi=>by
  by_cases e:i=k
  ·subst e;simp only[ZP];exact w2
  ·rw[ZI e,Int.add_zero];exact DO (H i hi).1 w1 (h3 i hi)
 rw[rF (λi=>(l i).p+(if i=k then h k else 0) - p0 i),fx (f:=λi=>(l i).p+(if i=k then h k else 0) - p0 i) (g:=λi=>(l i).p - p0 i) (k:=k) (x:=h k) hR hk (λi _ e=>by simp only[ZI e,Int.add_zero]) (by simp only[ZP];omega)] at q;have a:=hA (dl - t0) ρa;have:=ZU q hT;rw[<- Int.mul_assoc,Int.mul_add] at this;omega
end
end Go.Proofs.YtfdlemkplejdnaaGreat
