/- WholeBehind, part 17. Conditions: none. -/
import Derived.Test.YtfdlemkplejdnaaGreatA10
import Derived.Test.YtfdlemkplejdnaaGreatA11
import Derived.Laws.MakeOwn
import Derived.OwnWalk
namespace Go.Proofs.YtfdlemkplejdnaaGreat
open Go.RowKit Go.Sort
open Value renaming int->ι,pointer->ψ,slice->ζ,tuple->χ,agg->φ,map->μ,bool->β
open IntKind renaming u64->υ,i64->ε,u16->ω
open Ending renaming returned->ϰ
open Go.Proofs.Tryz renaming prog->Ψ,underlying3->Θ,underlying147->Δ,underlying152->Γ,underlying202->Φ,underlying39->Ξ,underlying207->Ω
open Go renaming World->ϖ,Value->ϗ
set_option linter.unusedVariables false
set_option linter.unusedSimpArgs false
set_option maxHeartbeats 8000000
set_option maxRecDepth 100000
structure PK where
 (id len h0 h1 h2 h3:Int)
abbrev sG (p:PK):Array ϗ:=#[ι υ p.id,ι ε p.len,ι ω p.h0,ι ω p.h1,ι ω p.h2,ι ω p.h3]
abbrev Ex (p:PK):ϗ:=φ (sG p)
def PK.zero:PK:=⟨0,0,0,0,0,0⟩
def dS:List PK->List ϗ
 | []=>[]
 | p::r=>(sG p).toList++dS r
def bR (ps:List PK):Array ϗ:=(dS ps).toArray
theorem n8 (ps:List PK):(dS ps).length=ps.length*6:=by
 induction ps with
 | nil=>rfl
 | cons p r ih=>simp only[dS,ZL,ih,mM];simp;omega
theorem uJ (ps:List PK):∀(k:Nat)(p:PK),ps[k]?=some p->∀j,j<6->(dS ps)[k*6+j]?=(sG p).toList[j]?:=by
 induction ps with
 | nil=>intro k p h;simp at h
 | cons q r ih=>
  intro k p h j hj;unfold dS;cases k with
  | zero=>have hqp:q=p:=σL;subst hqp;rw[Nat.zero_mul,Nat.zero_add,List.getElem?_append_left κb]
  | succ k=>
   rw[List.getElem?_append_right ρJ];have:=ih k p σL j hj;rw[<- this]
   congr 1
   simp;omega
theorem eU {ps:List PK} {k:Nat} {p:PK} (h:ps[k]?=some p)(j:Nat)(hj:j<6):(bR ps)[k*6+j]?=(sG p).toList[j]?:=by unfold bR;rw[List.getElem?_toArray];exact uJ ps k p h j hj
theorem uK (ps:List PK)(x:PK):∀k,k<ps.length->((((((dS ps).set (k*6) x.id).set (k*6+1) (ι ε x.len)).set (k*6+2) (ι ω x.h0)).set (k*6+3) (ι ω x.h1)).set (k*6+4) (ι ω x.h2)).set (k*6+5) (ι ω x.h3)=dS (ps.set k x):=by
 induction ps with
 | nil=>intro k h;simp at h
 | cons q r ih=>
  intro k h;cases k with
  | zero=>simp[dS]
  | succ k=>have:=ih k σL;unfold dS;rw[show (k+1)*6=(k*6)+6 by omega];simp only[List.set_cons_succ,dS];rw[<- this];simp[List.set_append_right,Nat.add_right_comm]
theorem uL (ps:List PK)(x:PK)(k:Nat)(h:k<ps.length):((((((bR ps).setIfInBounds (k*6) x.id).setIfInBounds (k*6+1) (ι ε x.len)).setIfInBounds (k*6+2) (ι ω x.h0)).setIfInBounds (k*6+3) (ι ω x.h1)).setIfInBounds (k*6+4) (ι ω x.h2)).setIfInBounds (k*6+5) (ι ω x.h3)=bR (ps.set k x):=by unfold bR;simp only[List.setIfInBounds_toArray];rw[uK ps x k h]
theorem KO.setCells {F:Nat->Prop} {a:ϖ} {B:Nat} (hB:B<a->F B):∀(vs:List ϗ)(o:Nat)(w:ϖ),KO F a w->KO F a (w.setCells B o vs)
 | [],_,_,h=>h
 | v::r,o,w,h=>KO.setCells hB r (o+1) _ (h.setCell hB v)
theorem qJ {P:Program} {IA:Array Oper} {rest:List Oper} {op:Oper} {a:Act} {w:ϖ} {Q:Exit->Act->ϖ->Prop} (ty:TypeId)(x y:Operand)(B o:Nat)(cs cs' Pz:Array ϗ)(t:TypeId)
  (Ld:op.guard=none) (ho:op.op=.store ty x y) (hx:a.eval x=ψ (some ⟨B,o,none⟩)) (hy:a.eval y=φ cs') (hB:ah w B cs t) (Kw:o+cs'.size<=cs.size) (MA:cJ cs o cs'.toList=Pz) (hi:(P.info? ty).map (·.size)=some cs'.size) (h1:cs'.all (·.oneCell')=true)
  (h:∀w',ah w' B Pz t->KO (λx=>x=B) w w'->w'.heap.size=w->wpList P IA Q rest (a.put op.dst undef) w'):wpList P IA Q (op::rest) a w:=by
 refine wpList_store_mid Ld ty x y ho B o cs' hx hy (λj hj=>?_) hi h1 ?_
 ·exact ηw
 ·have hb:=ah.setCells cs'.toList o w cs hB;rw[MA] at hb;exact h _ hb (KO.setCells (F:=λx=>x=B) (λ_=>rfl) cs'.toList o w (KO.refl _ _)) (ey B _ _ _)
theorem jY (ps:List PK)(x:PK)(k:Nat)(h:k<ps.length):cJ (bR ps) (k*6) (sG x).toList=bR (ps.set k x):=uL ps x k h
theorem ls (ps:List PK):(bR ps).size=ps.length*6:=by unfold bR;simp[n8]
def bC (w:ϖ)(R S c f n:Nat)(ps:List PK):Prop:=ah w R #[ζ S c c,ι ε (f:Nat),ι ε (n:Nat)] 326/\ah w S (bR ps) 50/\ps.length=c/\f<c/\n<=c/\c<=64
theorem Fc (R S c f n:Nat)(ps:List PK)(w:ϖ)(H:bC w R S c f n ps):Calls Ψ 151 #[R] w λe w'=>e=ϰ (ι ε n)/\w=w':=by
 obtain⟨R',S',hl,hf,hn,hc⟩:=H;have Rr:=R'.r;go_in;go_wp2;go_ret;exact⟨rfl,rfl⟩
theorem xB (R S c f n:Nat)(ps:List PK)(w:ϖ)(H:bC w R S c f n ps):
  CB 200 #[R] w (ι ε ((c:Int) - n)):=by
 obtain⟨R',S',hl,hf,hn,hc⟩:=H;have Rr:=θ2 R'.r S'.r;unfold CB;go_in;go_wp2_with fail;refine bS (θ3 (Ks (λ_=>False) w) R' S') ?_;clear Rr;rintro v1 ⟨F',Ov,JE⟩ Rr;have q:=θ2 (af Ov) (af JE);refine Wq ?_;refine pe ?_;refine bF (θ3 Ov JE F') ?_;clear Rr;rintro v2 ⟨Ze,KJ,Iz⟩ Rr;clear q Ov JE;go_wp2;go_ret;exact⟨rfl,Iz.below (ZR _) (λ_ _ f=>f)⟩
theorem oQ (R S c f n i:Nat)(ps:List PK)(w:ϖ)(H:bC w R S c f n ps)(hi:i<=64):
  CB 201 #[R,ι ε i] w (ι ε ((f+i) % c:Nat)):=by
 obtain⟨R',S',hl,hf,hn,hc⟩:=H;have hk:((f:Int)+(i:Nat)) % (c:Nat)=((f+i) % c:Nat):=by rw[Int.natCast_emod,Int.natCast_add]
 have b0:(1:Int)<=(c:Nat):=ρa;have b1:(f:Int)<=64:=ρa;have b2:(i:Int)<=64:=ρa;have Rr:=θ2 R'.r S'.r;unfold CB;go_in;go_wp2_with fail;refine bS (θ3 (Ks (λ_=>False) w) R' S') ?_;clear Rr;rintro v1 ⟨F',Ov,JE⟩ Rr;have q:=θ2 (af Ov) (af JE);refine Wq ?_;refine pe ?_;refine bF (θ3 Ov JE F') ?_;clear Rr;rintro v2 ⟨Ze,KJ,Iz⟩ Rr;clear q Ov JE;go_wp2;go_ret;exact⟨dP hk,Iz.below (ZR _) (λ_ _ f=>f)⟩
theorem bC.below {w w':ϖ} {R S c f n:Nat} {ps:List PK} (H:bC w R S c f n ps)(k:Below w w w'):bC w' R S c f n ps:=⟨H.1.below k H.1.size,H.2.1.below k H.2.1.size,H.2.2⟩
instance {w R S c f n ps}:Mv (bC w R S c f n ps) w (λv'=>bC v' R S c f n ps):=⟨λk h=>bC.below h k⟩
theorem qm (R S c f n:Nat)(ps:List PK)(x:PK)(w:ϖ)(H:bC w R S c f n ps)(XU:n=c):
  CB 153 #[R,Ex x] w (ι ε 5):=by
 obtain⟨R',S',hl,hf,hn,hc⟩:=H;have Rr:=θ2 R'.r S'.r;unfold CB;go_in;go_wp2_with fail;refine mL (θ3 (Ks (λ_=>False) w) R' S') (λv=>ah v w (sG x) 50) ρB ?_;clear Rr;rintro v1 X1 ⟨F',Ov,JE⟩ Rr;have Ss:=X1.r;refine(xB R S c f n ps _ ⟨Ov,JE,hl,hf,hn,hc⟩).mono ?_;rintro e v2 ⟨rfl,kx⟩;clear Rr Ss;obtain⟨⟨Ze,KJ,X2,Iz⟩,Rr⟩:=Mx kx (θ4 Ov JE X1 F');clear kx;have d0:(((c:Int) - n)==0)=true:=by rw[beq_iff_eq];omega
 go_wp2;go_ret;exact⟨rfl,Iz.below (ZR _) (λ_ _ f=>f)⟩
theorem vu (R S c f n:Nat)(ps:List PK)(x:PK)(w:ϖ)(H:bC w R S c f n ps)(MP:n<c):Calls Ψ 153 #[R,Ex x] w λe w'=>e=ϰ Kz/\bC w' R S c f (n+1) (ps.set ((f+n) % c) x)/\KO (λx=>x=R\/x=S) w w':=by
 have G:=H;obtain⟨R',S',hl,hf,hn,hc⟩:=H;have RS:=dV R' S' ρf;have nSR:=RS.symm;have N7:(f+n) % c<c:=Nat.mod_lt _ ρa;obtain⟨k,ek⟩:=Nq ((f+n) % c);rw[ek] at N7;have hkl:k<ps.length:=ρa;have i0:(0:Int)<=(k:Int):=ρa;have i1:(k:Int)<(c:Int):=ρa;have cPl:∀v,bC v R S c f n ps->CB 201 #[R,ι ε n] v (ι ε k):=λv h=>by have:=oQ R S c f n n ps v h ρa;rw[ek] at this;exact this
 have Ek:=ag ek;clear ek;have Rr:=θ2 R'.r S'.r;go_in;go_wp2_with fail;refine mL (θ4 (Ks (λx=>x=R\/x=S) w) R' S' G) (λv=>ah v w (sG x) 50) ρB ?_;clear Rr;rintro v1 X1 ⟨F',Ov,JE,G1⟩ Rr;have Ss:=X1.r;refine(xB R S c f n ps _ ⟨Ov,JE,hl,hf,hn,hc⟩).mono ?_;rintro e v2 ⟨rfl,kx⟩;clear Rr Ss;obtain⟨⟨Ze,KJ,G2,X2,Iz⟩,Rr⟩:=Mx kx (θ5 Ov JE G1 X1 F');clear kx;have d0:(((c:Int) - n)==0)=false:=ρ7;go_wp2_with fail;refine bS (θ5 Iz Ze KJ G2 X2) ?_;clear Rr;rintro v3 ⟨ID,Zf,KK,G3,X3⟩ Rr;have q:=θ3 (af Zf) (af KK) (af X3);refine Ws 12 (mw ?_)
 repeat (go_big_quiet_step ((first
   | (go_at_call 201;(with_reducible exact bT (cPl _ (G3.below (ZW _ _ _))))))))
 refine bF (θ5 Zf KK G3 X3 ID) ?_;clear Rr;rintro v4 ⟨R'4,Nh,G4,X4,IC⟩ Rr;clear q Zf KK G3 X3;have nXS:w≠S:=by have:=S'.size;omega
 refine qJ 50 (.tmp 23) (.tmp 22) S (k*6) (bR ps) (sG x) (bR (ps.set k x)) 50 ρr ρr ρr ρr Nh (by rw[ls];simp;omega) (jY ps x k hkl) ρh σg ?_;intro v5 Ln kx zx;have R'5:=R'4.ko kx ρj;have X5:=X4.ko kx ρj;have IN:KO (λx=>x=R\/x=S) w v5:=IC.trans kx τy;replace Rr:=θ3 R'5.r Ln.r X5.r;clear kx;have bn:(n:Int)<=64:=ρa;go_wp2;refine eu v5 (λx=>x=R) (λv=>ah v (R) #[ζ S c c,ι ε (f:Nat),ι ε (n+1:Nat)] 326/\ah v (S) (bR (ps.set k x)) 50) ⟨ρB,ρB⟩ (λ_ kx=>(IN.trans kx τy)) ?_;rintro v6 ⟨R'6,Nx⟩ IQ;replace Rr:=θ2 R'6.r Nx.r;go_ret;exact⟨rfl,⟨R'6,by rw[Ek.out];exact Nx,by simp[hl],hf,by omega,hc⟩,IQ⟩
theorem BG (R S c f n:Nat)(ps:List PK)(p:PK)(w:ϖ)(H:bC w R S c f n ps)(h0:0<n)(hk:ps[f]?=some p):
  CB 259 #[R,Kz] w (χ #[φ (gG p.id p.len p.h0 p.h1 p.h2 p.h3),Kz]):=by
 have G:=H;obtain⟨R',S',hl,hf,hn,hc⟩:=H;have N7:f<ps.length:=ρa;have i0:(0:Int)<=(f:Int):=ρa;have i1:(f:Int)<(c:Int):=ρa;have dn:=df ((n:Int)<=0);have g0:(bR ps)[f*6]?=some (ι υ p.id):=by have:=eU hk 0 ρa;simpa using this
 have g1:(bR ps)[f*6+1]?=some (ι ε p.len):=by have:=eU hk 1 ρa;simpa using this
 have g2:(bR ps)[f*6+2]?=some (ι ω p.h0):=by have:=eU hk 2 ρa;simpa using this
 have g3:(bR ps)[f*6+3]?=some (ι ω p.h1):=by have:=eU hk 3 ρa;simpa using this
 have g4:(bR ps)[f*6+4]?=some (ι ω p.h2):=by have:=eU hk 4 ρa;simpa using this
 have g5:(bR ps)[f*6+5]?=some (ι ω p.h3):=by have:=eU hk 5 ρa;simpa using this
 have cPl:∀v,bC v R S c f n ps->CB 201 #[R,Kz] v (ι ε f):=λv h=>by have:=oQ R S c f n 0 ps v h ρa;rw[Nat.add_zero,Nat.mod_eq_of_lt hf] at this;exact this
 clear hk;have Rr:=θ2 R'.r S'.r;unfold CB;go_in;go_upto_region 6 with (fail);refine jf (θ4 (Ks (λ_=>False) w) R' S' G) (λv=>ah v w (gG 0 0 0 0 0 0) 50) ρB ?_;clear Rr;rintro v1 V1 ⟨F',Ov,JE,G1⟩ Rr;replace rV:=V1.r;have q:=θ3 (af Ov) (af JE) (af V1);refine Ws 9 (mw ?_)
 repeat (go_big_quiet_step ((first
   | (go_at_call 201;(with_reducible exact bT (cPl _ (G1.below (ZW _ _ _))))))))
 refine bF (θ5 Ov JE G1 V1 F') ?_;clear Rr;rintro v2 ⟨Ze,KJ,G2,V2,Iz⟩ Rr;replace rV:=V2.r;clear q Ov JE G1 V1;go_wp2_with fail;refine eu v2 (λx=>x=w.heap.size) (λv=>ah v w (gG p.id p.len p.h0 p.h1 p.h2 p.h3) 50) ρB (λ_ kx=>(Iz.trans kx ρc)) ?_;rintro v3 V3 ID;replace rV:=V3.r;refine ZO (v:=χ #[φ (gG p.id p.len p.h0 p.h1 p.h2 p.h3),Kz]) (by simp[results,Tryz.results259,go_sem,rV.1]) rfl ⟨rfl,ID.below (ZR _) (λ_ _ f=>f)⟩
theorem Ff (R S c f n:Nat)(ps:List PK)(p:PK)(w:ϖ)(H:bC w R S c f n ps)(h0:0<n)(hk:ps[f]?=some p):Calls Ψ 217 #[R] w λe w'=>e=ϰ (χ #[φ (gG p.id p.len p.h0 p.h1 p.h2 p.h3),Kz])/\bC w' R S c ((f+1) % c) (n - 1) (ps.set f PK.zero)/\KO (λx=>x=R\/x=S) w w':=by
 have G:=H;obtain⟨R',S',hl,hf,hn,hc⟩:=H;have RS:=dV R' S' ρf;have nSR:=RS.symm;have zR0:=R'.size;have Xd:=S'.size;have N7:f<ps.length:=ρa;have i0:(0:Int)<=(f:Int):=ρa;have i1:(f:Int)<(c:Int):=ρa;have Rr:=θ2 R'.r S'.r;go_in;go_wp2_with fail;refine mL (θ4 (Ks (λx=>x=R\/x=S) w) R' S' G) (λv=>ah v w (gG 0 0 0 0 0 0) 50) ρB ?_;clear Rr;rintro v1 V1 ⟨F',Ov,JE,G1⟩ Rr;replace rV:=V1.r;refine(BG R S c f n ps p _ G1 h0 hk).mono ?_;rintro e v2 ⟨rfl,kx⟩;clear Rr;obtain⟨⟨Ze,KJ,G2,V2,Iz⟩,Rr⟩:=Mx kx (θ5 Ov JE G1 V1 F');replace rV:=V2.r;clear kx;go_upto_region 5 with (fail);refine jf (θ5 Iz Ze KJ G2 V2) (λv=>ah v v2 (gG p.id p.len p.h0 p.h1 p.h2 p.h3) 50/\ah v (v2+1) (gG 0 0 0 0 0 0) 50) ⟨ρB,ρB⟩ ?_;clear Rr;rintro v3 ⟨X3,Y3⟩ ⟨ID,Zf,KK,G3,V3⟩ Rr;replace rV:=V3.r;have Ss:=θ2 X3.r Y3.r;have q:=θ5 (af Zf) (af KK) (af V3) (af X3) (af Y3);refine Ws 10 (gw ?_);refine bF (θ7 Zf KK G3 V3 X3 Y3 ID) ?_;clear Rr Ss;rintro v4 ⟨R'4,Nh,G4,V4,X4,Y4,IC⟩ Rr;replace rV:=V4.r;clear q Zf KK G3 V3 X3 Y3;have nXS:v2≠S:=by have:=Iz.size;omega
 have zv2:=Iz.size;refine qJ 50 (.tmp 25) (.tmp 24) S (f*6) (bR ps) (sG PK.zero) (bR (ps.set f PK.zero)) 50 ρr ρr ρr ρr Nh (by rw[ls];simp;omega) (jY ps PK.zero f N7) ρh σg ?_;intro v5 Ln kx zx;have R'5:=R'4.ko kx ρj;have V5:=V4.ko kx ρj;have X5:=X4.ko kx ρj;have Y5:=Y4.ko kx ρj;have IN:KO (λx=>x=R\/x=S) w v5:=IC.trans kx σp;replace rV:=V5.r;replace Rr:=θ4 R'5.r Ln.r X5.r Y5.r;clear kx;go_wp2_with fail;refine kL (θ6 IN R'5 Ln V5 X5 Y5) ?_;clear Rr;rintro v6 ⟨IQ,R'6,Nx,V6,X6,Y6⟩ Rr;replace rV:=V6.r;have G6:bC v6 R S c f n (ps.set f PK.zero):=⟨R'6,Nx,by simp[hl],hf,hn,hc⟩;refine(oQ R S c f n 1 _ _ G6 ρa).mono ?_;rintro e v7 ⟨rfl,kx⟩;clear Rr;obtain⟨⟨R'7,Rw,V7,X7,Y7,I8⟩,Rr⟩:=Mx kx (θ6 R'6 Nx V6 X6 Y6 IQ);replace rV:=V7.r;clear kx;obtain⟨g,eg⟩:=Nq ((f+1) % c);rw[eg];have Eg:=ag eg;clear eg;have bn:(n:Int)<=64:=ρa;have b0:(1:Int)<=(n:Int):=ρa;go_upto_region 8 with (fail);refine gX v7 (λx=>x=R) (λv=>ah v (R) #[ζ S c c,ι ε (g:Nat),ι ε ((n:Int) - 1)] 326/\ah v (S) (bR (ps.set f PK.zero)) 50/\ah v w (gG 0 0 0 0 0 0) 50/\ah v v2 (gG p.id p.len p.h0 p.h1 p.h2 p.h3) 50/\ah v (v2+1) (gG 0 0 0 0 0 0) 50) ⟨ρB,ρB,ρB,ρB,ρB⟩ (λ_ kx=>(I8.trans kx σp)) ?_;rintro v8 ⟨R'8,Qe,V8,X8,Y8⟩ Je;replace rV:=V8.r;replace Rr:=θ4 R'8.r Qe.r X8.r Y8.r;go_wp2_with fail;refine eu v8 (λx=>x=w.heap.size) (λv=>ah v (R) #[ζ S c c,ι ε (g:Nat),ι ε ((n:Int) - 1)] 326/\ah v (S) (bR (ps.set f PK.zero)) 50/\ah v w (gG p.id p.len p.h0 p.h1 p.h2 p.h3) 50) ⟨ρB,ρB,ρB⟩ (λ_ kx=>(Je.trans kx σp)) ?_;rintro v9 ⟨R'9,S'9,V9⟩ Jl;replace rV:=V9.r;replace Rr:=θ2 R'9.r S'9.r;refine ZO (v:=χ #[φ (gG p.id p.len p.h0 p.h1 p.h2 p.h3),Kz]) (by simp[results,Tryz.results217,go_sem,rV.1]) rfl ⟨rfl,⟨by rw[Eg.out,show ((n - 1:Nat):Int)=(n:Int) - 1 by omega];exact R'9,S'9,by simp[hl],Nat.mod_lt _ ρa,by omega,hc⟩,Jl⟩
theorem pL (c:Nat):dS (List.replicate c PK.zero)=(madeCells (gG 0 0 0 0 0 0) (c*6)).toList:=by
 induction c with
 | zero=>simp[dS,madeCells]
 | succ c ih=>
  rw[List.replicate_succ'];have happ:∀(a b:List PK),dS (a++b)=dS a++dS b:=by
   intro a b
   induction a with
   | nil=>rfl
   | cons x r ih2=>simp only[List.cons_append,dS,ih2,List.append_assoc]
  rw[happ,ih];unfold madeCells;rw[show (c+1)*6=c*6+6 by omega];apply List.ext_getElem?;intro i;by_cases hi:i<c*6
  ·rw[List.getElem?_append_left τk];simp[hi,show i<c*6+6 by omega]
  ·rw[List.getElem?_append_right ρJ];simp only[Array.length_toList,Array.size_map,Array.size_range,dS,ZA,PK.zero];by_cases hj:i<c*6+6
   ·obtain⟨j,rfl⟩:∃j,i=c*6+j:=⟨i - c*6,by omega⟩;have hj6:j<6:=ρa;simp only[Nat.add_sub_cancel_left,Array.getElem?_toList,Array.getElem?_map,Array.getElem?_range,hj,if_true,Option.map_some];have hm:(c*6+j) % 6=j:=ρa;rcases(by omega:j=0\/j=1\/j=2\/j=3\/j=4\/j=5) with rfl|rfl|rfl|rfl|rfl|rfl<;>simp[hm]
   ·rw[List.getElem?_eq_none ρJ,List.getElem?_eq_none ρJ]
theorem Fe (c:Nat)(w:ϖ)(h1:1<=c)(h2:c<=64):Calls Ψ 152 #[ι ε c] w λe w'=>e=ϰ (χ #[ψ (some ⟨w+1,0,none⟩),Kz])/\bC w' (w+1) w c 0 0 (List.replicate c PK.zero)/\Below w w w':=by
 have d1:=df ((c:Int)<1);have d2:=df (64<(c:Int));have hf:bR (List.replicate c PK.zero)=madeCells (gG 0 0 0 0 0 0) (c*6):=by unfold bR;rw[pL]
 obtain⟨i,hi,Ob,Jf,Jr⟩:=info_parts (P:=Ψ) (e:=50) (z:=φ (gG 0 0 0 0 0 0)) (size:=6) (bytes:=24) ρh;have hmk:∀v:ϖ,(Instr.makeSlice 324 (ι ε c) (ι ε c)).run Ψ v=.ok (ζ v c c) (v.alloc (.cells (bR (List.replicate c PK.zero)) 50)):=λv=>by have:=run_makeSlice (P:=Ψ) v 324 50 i _ Tryz.underlying324 hi Ob .i64 .i64 c c ρa ρa (by rw[Jf];simp;omega) (by rw[Jr];omega) ρa;rw[Jf] at this;simp only[Int.toNat_natCast,Value.cells] at this;rw[hf];exact this
 have Hf:=ag hf;clear hf hi Ob Jf Jr;obtain⟨z,ez⟩:=Nq (bR (List.replicate c PK.zero));rw[ez] at hmk;have Ez:=ag ez;clear ez;go_in;go_wp2;go_ret2;exact⟨rfl,⟨show ah _ _ #[ζ w c c,Kz,Kz] _ from ρB,by rw[Ez.out];(repeat' (first|(with_reducible (first|assumption|exact ah.alloc_new _ _ _ ρ4|apply ah.drewN|apply ah.drew|apply ah.alloc_old|apply ah.set_same|apply ah.set_other))|(show (_:Nat)≠_;first|omega|(simp;done)|(simp;omega))|((simp only[List.setIfInBounds_toArray,List.set_cons_succ,List.set_cons_zero]);(with_reducible exact rfl))|(with_reducible exact rfl)|(show (_:Array ϗ)=_;exact rfl))),by simp,by omega,by omega,h2⟩,ρE⟩
def aE:List PK->Int
 | []=>0
 | p::r=>p.len+aE r
def aZ:List PK->Int
 | []=>0
 | p::_=>p.len
def aW (w:ϖ)(B:Nat)(IV:Int)(c:Nat)(l:List PK)(fp:Nat->Prop):Prop:=∃(R S f:Nat)(ps:List PK)(k0 k1 k2 k3 k4 k5:Int),ah w B #[R,ι ε IV,ι ε (aE l),(k0),(k1),(k2),(k3),(k4),(k5)] 281/\bC w R S c f l.length ps/\(∀i,i<l.length->ps[(f+i) % c]?=l[i]?)/\(∀p ∈ l,1<=p.len/\p.len<=16384)/\(aE l<=IV/\1<=IV/\IV<=1048576)/\fp B/\fp R/\fp S/\(∀x,fp x->x<w.heap.size)
theorem bC.ko {w w':ϖ} {F:Nat->Prop} {R S c f n:Nat} {ps:List PK} (H:bC w R S c f n ps)(k:KO F w w')(h1:¬F R)(h2:¬F S):bC w' R S c f n ps:=⟨H.1.ko k h1,H.2.1.ko k h2,H.2.2⟩
theorem aW.ko {w w':ϖ} {F:Nat->Prop} {B:Nat} {IV:Int} {c:Nat} {l:List PK} {fp:Nat->Prop} (h:aW w B IV c l fp)(k:KO F w w')(hF:∀x,fp x->¬F x):aW w' B IV c l fp:=by obtain⟨R,S,f,ps,k0,k1,k2,k3,k4,k5,B',G,h1,h2,h3,h4,h5,h6,h7⟩:=h;exact⟨R,S,f,ps,k0,k1,k2,k3,k4,k5,B'.ko k (hF _ h4),G.ko k (hF _ h5) (hF _ h6),h1,h2,h3,h4,h5,h6,λx hx=>ZB (h7 x hx) k.size⟩
theorem aW.below {w w':ϖ} {B:Nat} {IV:Int} {c:Nat} {l:List PK} {fp:Nat->Prop} (h:aW w B IV c l fp)(k:Below w w w'):aW w' B IV c l fp:=h.ko (KO.of_below (F:=λ_=>False) k) (λ_ _ f=>f)
instance {w B IV c l fp}:Mv (aW w B IV c l fp) w (λv'=>aW v' B IV c l fp):=⟨λk h=>aW.below h k⟩
def kK (w w':ϖ)(B:Nat)(IV:Int)(c:Nat)(l:List PK)(fp:Nat->Prop):Prop:=aW w' B IV c l fp/\KO fp w w'
theorem sJ (B:Nat)(IV:Int)(c:Nat)(l:List PK)(fp:Nat->Prop)(w:ϖ)(H:aW w B IV c l fp):Calls Ψ 122 #[B] w λe w'=>e=ϰ (ι ε l.length)/\w=w':=by
 obtain⟨R,S,f,ps,k0,k1,k2,k3,k4,k5,B',G,JX,IS,RG,fB,fR,fS,Tj⟩:=H;clear JX IS RG fB fR fS Tj;obtain⟨by_,Nk⟩:=Nq (aE l);rw[Nk] at B';have cB:=B'.cell;have fB:=B'.frozen;have zB:=B'.size;go_in;go_wp2_with fail;refine(Fc R S c f l.length ps _ G).mono ?_;rintro e u ⟨rfl,rfl⟩;go_wp2;go_ret;exact⟨rfl,rfl⟩
theorem EA (B:Nat)(IV:Int)(c:Nat)(l:List PK)(fp:Nat->Prop)(w:ϖ)(H:aW w B IV c l fp):
  CB 220 #[B] w (ι ε (aZ l)):=by
 have H0:=H;obtain⟨R,S,f,ps,k0,k1,k2,k3,k4,k5,B',G,JX,IS,RG,fB,fR,fS,Tj⟩:=H;cases l with
 | nil=>clear JX IS RG fB fR fS Tj G B';unfold CB;go_in;go_wp2_with fail;refine(sJ B IV c [] fp _ H0).mono ?_;rintro e u ⟨rfl,rfl⟩;simp only[List.length_nil];exact ηR
 | cons p r=>
  obtain⟨-,-,KE,hf,hn,hc⟩:=id G;have LY:ps[f]?=some p:=by have:=JX 0 ρp;rw[Nat.add_zero,Nat.mod_eq_of_lt hf] at this;simpa using this
  have HP:=ag LY;obtain⟨by_,Nk⟩:=Nq (aE (p::r));rw[Nk] at B';obtain⟨n,en⟩:=Nq ((p::r).length);have n1:1<=n:=by rw[<- en];simp
  have d0:((n:Int)==0)=false:=ρ7;have cLen:∀v,v=w->Calls Ψ 122 #[B] v λe w'=>e=ϰ (ι ε n)/\v=w':=λv hv=>by subst hv;have:=sJ B IV c (p::r) fp v H0;rw[en] at this;exact this
  rw[en] at G;clear JX IS RG fB fR fS Tj LY KE hf hn hc Nk en H0;have cB:=B'.cell;have fB:=B'.frozen;have zB:=B'.size;unfold CB;go_in;go_wp2_with fail;refine(cLen _ rfl).mono ?_;rintro e u ⟨rfl,rfl⟩;clear cLen;go_wp2_with fail;refine(BG R S c f n ps p _ G ρa HP.out).mono ?_;rintro e w1 ⟨rfl,IG⟩;go_wp2;go_ret;exact⟨rfl,IG.trans (Below.mono ρE IG.size)⟩
theorem Gl (c:Nat)(IV:Int)(w:ϖ)(h1:1<=c)(h2:c<=64)(h3:1<=IV)(h4:IV<=1048576):Calls Ψ 123 #[ι ε c,ι ε IV] w λe w'=>∃B:Nat,e=ϰ (χ #[B,Kz])/\(∃fp,aW w' B IV c [] fp/\∀x,fp x->w.heap.size<=x)/\Below w w w':=by
 have d1:=df (IV<1);have d2:=df (1048576<IV);go_in;go_wp2_with fail;refine(Fe c _ h1 h2).mono ?_;rintro e v1 ⟨rfl,G,hb⟩;go_wp2;go_ret2;have zR:=G.1.size;have zS:=G.2.1.size;refine⟨_,rfl,⟨λx=>w.heap.size<=x/\x<=v1,⟨w+1,w,0,_,0,0,0,0,0,0,show ah _ _ #[ψ (some ⟨w+1,0,none⟩),ι ε IV,Kz,Ky,Ky,Ky,Ky,Ky,Ky] _ from ρB,G.below ρE,λi hi=>by simp at hi,λp hp=>by simp at hp,by simp[aE];omega,⟨by omega,by omega⟩,⟨by omega,by omega⟩,⟨by omega,by omega⟩,λx hx=>by simp;omega⟩,λx hx=>hx.1⟩,hb.trans (Below.mono ρE hb.size)⟩
theorem dJ {l:List PK} (h:∀p ∈ l,1<=p.len/\p.len<=16384):0<=aE l:=by
 induction l with
 | nil=>simp[aE]
 | cons p r ih=>have:=h p ρp;have:=ih (λq hq=>h q (by simp[hq]));simp only[aE];omega
theorem jg (l:List PK)(p:PK):aE (l++[p])=aE l+p.len:=by
 induction l with
 | nil=>simp[aE]
 | cons q r ih=>simp only[List.cons_append,aE,ih];omega
theorem wU {f i j c:Nat} (hf:f<c)(hij:i<j)(hj:j<c):(f+i) % c≠(f+j) % c:=by
 intro h;rcases Nat.lt_or_ge (f+i) c with h1|h1
 ·rw[Nat.mod_eq_of_lt h1] at h;rcases Nat.lt_or_ge (f+j) c with h2|h2
  ·rw[Nat.mod_eq_of_lt h2] at h;omega
  ·rw[Nat.mod_eq_sub_mod h2,Nat.mod_eq_of_lt ρa] at h;omega
 ·rw[Nat.mod_eq_sub_mod h1,Nat.mod_eq_of_lt ρa,Nat.mod_eq_sub_mod (by omega:f+j≥c),Nat.mod_eq_of_lt ρa] at h;omega
theorem vw {f c:Nat} {l ps:List PK} {p:PK} (JX:∀i,i<l.length->ps[(f+i) % c]?=l[i]?)(hf:f<c)(MP:l.length<c)(KE:ps.length=c):∀i,i<(l++[p]).length->(ps.set ((f+l.length) % c) p)[(f+i) % c]?=(l++[p])[i]?:=by
 intro i hi;rw[ZL,rq] at hi;rw[List.getElem?_set];rcases Nat.lt_or_ge i l.length with h|h
 ·rw[ZI (wU hf h MP).symm,JX i h,List.getElem?_append_left h]
 ·have:i=l.length:=by omega
  subst this;rw[ZP rfl,ZP (by rw[KE];exact Nat.mod_lt _ ρa),List.getElem?_append_right (ZR _)];simp
theorem xI {f c n:Nat} {p:PK} {r ps:List PK} (JX:∀i,i<(p::r).length->ps[(f+i) % c]?=(p::r)[i]?)(hf:f<c)(hn:n<=c)(KE:ps.length=c)(en:n - 1=r.length)(n1:1<=n):∀i,i<r.length->(ps.set f PK.zero)[((f+1) % c+i) % c]?=r[i]?:=by
 intro i hi;have e:((f+1) % c+i) % c=(f+(i+1)) % c:=by rw[Nat.mod_add_mod];congr 1;omega
 have IX:f≠(f+(i+1)) % c:=by have:=wU (f:=f) (i:=0) (j:=i+1) (c:=c) hf ρa ρa;rwa [Nat.add_zero,Nat.mod_eq_of_lt hf] at this
 rw[e,List.getElem?_set,ZI IX,JX (i+1) ρJ];simp
theorem qi (B:Nat)(IV:Int)(c:Nat)(l:List PK)(p:PK)(fp:Nat->Prop)(w:ϖ)(H:aW w B IV c l fp)(J9:1<=p.len)(Us:p.len<=16384)(hb:IV - aE l<p.len):Calls Ψ 127 #[B,Ex p] w λe w'=>e=ϰ (ι ε 30)/\kK w w' B IV c l fp:=by
 obtain⟨R,S,f,ps,k0,k1,k2,k3,k4,k5,B',G,JX,IS,RG,fB,fR,fS,Tj⟩:=H;obtain⟨RB,SB,KE,hf,hn,hc⟩:=id G;refine δX ?_;intro nBR nBS RS TC zR0 Xd;obtain⟨by_,Nk⟩:=Nq (aE l);have SW:=ag Nk;rw[Nk] at B' RG;have d1:=df (p.len<1);have d2:=df (16384<p.len);have d3:decide (IV - by_<p.len)=true:=ZT (by have:=SW.out;omega);have bb0:0<=by_:=by rw[<- Nk];exact dJ IS
 have ws:IntKind.i64.wrap (IV - by_)=IV - by_:=IntWalk.i64_in _ ρa;clear Nk RB SB;have Rr:=B'.r;go_in;go_upto_region 5 with (fail);refine jf (θ3 (Ks fp w) B' G) (λv=>ah v w (sG p) 50) ρB ?_;clear Rr;rintro v1 X1 ⟨F',J',G1⟩ Rr;have Ss:=X1.r;have q:=θ2 (af J') (af X1);refine Wq ?_;refine pe ?_;refine bF (θ4 J' G1 X1 F') ?_;clear Rr Ss;rintro v2 ⟨JU,G2,X2,Iz⟩ Rr;clear q J' G1 X1;go_upto_region 7 with (fail);refine gX v2 (λx=>x=B) (λv=>ah v (B) #[R,ι ε IV,ι ε (by_),(k0),(k1),ι υ (IntKind.u64.wrap (k2+1)),(k3),(k4),(k5)] 281/\ah v w (sG p) 50) ⟨ρB,ρB⟩ (λ_ kx=>θ2 (Iz.trans kx ρl) (G2.ko kx ρj ρj)) ?_;rintro v3 ⟨JL,X3⟩ ⟨ID,G3⟩;replace Rr:=θ2 JL.r X3.r;refine bS (θ4 ID JL G3 X3) ?_;clear Rr;rintro v4 ⟨IC,Kj,G4,X4⟩ Rr;have q:=θ2 (af Kj) (af X4);refine Ws 12 (gw ?_);refine bF (θ4 Kj G4 X4 IC) ?_;clear Rr;rintro v5 ⟨KI,G5,X5,IN⟩ Rr;clear q Kj G4 X4;go_wp2;go_ret;refine⟨rfl,⟨R,S,f,ps,_,_,_,_,_,_,by rw[SW.out];(repeat' (first|(with_reducible (first|assumption|exact ah.alloc_new _ _ _ ρ4|apply ah.drewN|apply ah.drew|apply ah.alloc_old|apply ah.set_same|apply ah.set_other))|(show (_:Nat)≠_;first|omega|(simp;done)|(simp;omega))|((simp only[List.setIfInBounds_toArray,List.set_cons_succ,List.set_cons_zero]);(with_reducible exact rfl))|(with_reducible exact rfl)|(show (_:Array ϗ)=_;exact rfl))),G5.ko (show KO (λx=>x=B) _ _ from ρK) ρj ρj,JX,IS,by rw[SW.out];exact RG,fB,fR,fS,λx hx=>ZB (Tj x hx) (by simp;exact IN.size)⟩,IN.trans (show KO (λx=>x=B) _ _ from ρK) ρl⟩
theorem sK (B:Nat)(IV:Int)(c:Nat)(l:List PK)(p:PK)(fp:Nat->Prop)(w:ϖ)(H:aW w B IV c l fp)(J9:1<=p.len)(Us:p.len<=16384)(hb:p.len<=IV - aE l)(XU:l.length=c):Calls Ψ 127 #[B,Ex p] w λe w'=>e=ϰ (ι ε 30)/\kK w w' B IV c l fp:=by
 obtain⟨R,S,f,ps,k0,k1,k2,k3,k4,k5,B',G,JX,IS,RG,fB,fR,fS,Tj⟩:=H;obtain⟨RB,SB,KE,hf,hn,hc⟩:=id G;refine δX ?_;intro nBR nBS RS TC zR0 Xd;obtain⟨by_,Nk⟩:=Nq (aE l);have SW:=ag Nk;rw[Nk] at B' RG;have d1:=df (p.len<1);have d2:=df (16384<p.len);have d3:decide (IV - by_<p.len)=false:=ZF (by have:=SW.out;omega);have bb0:0<=by_:=by rw[<- Nk];exact dJ IS
 have ws:IntKind.i64.wrap (IV - by_)=IV - by_:=IntWalk.i64_in _ ρa;clear Nk RB SB;have Rr:=B'.r;go_in;go_upto_region 5 with (fail);refine jf (θ3 (Ks fp w) B' G) (λv=>ah v w (sG p) 50) ρB ?_;clear Rr;rintro v1 X1 ⟨F',J',G1⟩ Rr;have Ss:=X1.r;have q:=θ2 (af J') (af X1);refine Ws 18 (gw ?_);refine bF (θ4 J' G1 X1 F') ?_;clear Rr Ss;rintro v2 ⟨JU,G2,X2,Iz⟩ Rr;clear q J' G1 X1;go_wp2_with fail;refine Zc (θ4 Iz JU G2 X2) ?_;rintro v3 ⟨ID,JL,G3,X3⟩;refine(qm R S c f l.length ps p _ G3 XU).mono ?_;rintro e v4 ⟨rfl,kx⟩;clear Rr;obtain⟨⟨Kj,G4,X4,IC⟩,Rr⟩:=Mx kx (θ4 JL G3 X3 ID);clear kx;go_upto_region 7 with (fail);refine gX v4 (λx=>x=B) (λv=>ah v (B) #[R,ι ε IV,ι ε (by_),(k0),(k1),ι υ (IntKind.u64.wrap (k2+1)),(k3),(k4),(k5)] 281/\ah v w (sG p) 50) ⟨ρB,ρB⟩ (λ_ kx=>θ2 (IC.trans kx ρl) (G4.ko kx ρj ρj)) ?_;rintro v5 ⟨KI,X5⟩ ⟨IN,G5⟩;replace Rr:=θ2 KI.r X5.r;refine bS (θ4 IN KI G5 X5) ?_;clear Rr;rintro v6 ⟨IQ,Og,G6,X6⟩ Rr;have q:=θ2 (af Og) (af X6);refine Ws 12 (gw ?_);refine bF (θ4 Og G6 X6 IQ) ?_;clear Rr;rintro v7 ⟨Oo,G7,X7,I8⟩ Rr;clear q Og G6 X6;go_wp2;go_ret;refine⟨rfl,⟨R,S,f,ps,_,_,_,_,_,_,by rw[SW.out];(repeat' (first|(with_reducible (first|assumption|exact ah.alloc_new _ _ _ ρ4|apply ah.drewN|apply ah.drew|apply ah.alloc_old|apply ah.set_same|apply ah.set_other))|(show (_:Nat)≠_;first|omega|(simp;done)|(simp;omega))|((simp only[List.setIfInBounds_toArray,List.set_cons_succ,List.set_cons_zero]);(with_reducible exact rfl))|(with_reducible exact rfl)|(show (_:Array ϗ)=_;exact rfl))),G7.ko (show KO (λx=>x=B) _ _ from ρK) ρj ρj,JX,IS,by rw[SW.out];exact RG,fB,fR,fS,λx hx=>ZB (Tj x hx) (by simp;exact I8.size)⟩,I8.trans (show KO (λx=>x=B) _ _ from ρK) ρl⟩
theorem xj (B:Nat)(IV:Int)(c:Nat)(l:List PK)(p:PK)(fp:Nat->Prop)(w:ϖ)(H:aW w B IV c l fp)(J9:1<=p.len)(Us:p.len<=16384)(hb:p.len<=IV - aE l)(MP:l.length<c):Calls Ψ 127 #[B,Ex p] w λe w'=>e=ϰ Kz/\kK w w' B IV c (l++[p]) fp:=by
 obtain⟨R,S,f,ps,k0,k1,k2,k3,k4,k5,B',G,JX,IS,RG,fB,fR,fS,Tj⟩:=H;obtain⟨RB,SB,KE,hf,hn,hc⟩:=id G;refine δX ?_;intro nBR nBS RS TC zR0 Xd;obtain⟨by_,Nk⟩:=Nq (aE l);have SW:=ag Nk;rw[Nk] at B' RG;have d1:=df (p.len<1);have d2:=df (16384<p.len);have d3:decide (IV - by_<p.len)=false:=ZF (by have:=SW.out;omega);have bb0:0<=by_:=by rw[<- Nk];exact dJ IS
 have ws:IntKind.i64.wrap (IV - by_)=IV - by_:=IntWalk.i64_in _ ρa;clear Nk RB SB;have Rr:=B'.r;go_in;go_upto_region 5 with (fail);refine jf (θ3 (Ks fp w) B' G) (λv=>ah v w (sG p) 50) ρB ?_;clear Rr;rintro v1 X1 ⟨F',J',G1⟩ Rr;have Ss:=X1.r;have Mi:=af J';have qX:=af X1;refine Ws 18 (gw ?_);refine bF (θ4 J' G1 X1 F') ?_;clear Rr Ss;rintro v2 ⟨JU,G2,X2,Iz⟩ Rr;clear Mi qX J' G1 X1;go_wp2_with fail;refine Zc (θ4 Iz JU G2 X2) ?_;rintro v3 ⟨ID,JL,G3,X3⟩;refine(vu R S c f l.length ps p _ G3 MP).mono ?_;rintro e v4 ⟨rfl,G4,kx⟩;have Kj:=JL.ko kx ρj;have X4:=X3.ko kx ρj;have IC:KO fp w v4:=ID.trans kx ρl;replace Rr:=θ2 Kj.r X4.r;clear kx;go_upto_region 9 with (fail);refine bS (θ4 IC Kj G4 X4) ?_;clear Rr;rintro v5 ⟨IN,KI,G5,X5⟩ Rr;have Mi:=af KI;have qX:=af X5;refine Ws 9 (gw ?_);refine bF (θ4 KI G5 X5 IN) ?_;clear Rr;rintro v6 ⟨Og,G6,X6,IQ⟩ Rr;clear Mi qX KI G5 X5;go_upto_region 11 with (fail);refine gX v6 (λx=>x=B) (λv=>ah v (B) #[R,ι ε IV,ι ε (by_+p.len),ι υ (IntKind.u64.wrap (k0+1)),(k1),(k2),(k3),(k4),(k5)] 281/\ah v w (sG p) 50) ⟨ρB,ρB⟩ (λ_ kx=>θ2 (IQ.trans kx ρl) (G6.ko kx ρj ρj)) ?_;rintro v7 ⟨Oo,X7⟩ ⟨I8,G7⟩;replace Rr:=θ2 Oo.r X7.r;refine bS (θ4 I8 Oo G7 X7) ?_;clear Rr;rintro v8 ⟨Je,Qb,G8,X8⟩ Rr;have Mi:=af Qb;have qX:=af X8;refine Ws 12 (gw ?_);refine bF (θ4 Qb G8 X8 Je) ?_;clear Rr;rintro v9 ⟨OV,G9,X9,Jl⟩ Rr;clear Mi qX Qb G8 X8;go_wp2;go_ret;refine⟨rfl,⟨R,S,f,_,_,_,_,_,_,_,by rw[jg,SW.out];(repeat' (first|(with_reducible (first|assumption|exact ah.alloc_new _ _ _ ρ4|apply ah.drewN|apply ah.drew|apply ah.alloc_old|apply ah.set_same|apply ah.set_other))|(show (_:Nat)≠_;first|omega|(simp;done)|(simp;omega))|((simp only[List.setIfInBounds_toArray,List.set_cons_succ,List.set_cons_zero]);(with_reducible exact rfl))|(with_reducible exact rfl)|(show (_:Array ϗ)=_;exact rfl))),by rw[ZL];exact G9.ko (show KO (λx=>x=B) _ _ from ρK) ρj ρj,vw JX hf MP KE,λq hq=>(ZM.1 hq).elim (IS q) (λh=>by simp at h;subst h;exact⟨J9,Us⟩),by have:=SW.out;rw[jg];omega,fB,fR,fS,λx hx=>ZB (Tj x hx) (by simp;exact Jl.size)⟩,Jl.trans (show KO (λx=>x=B) _ _ from ρK) ρl⟩
theorem Gn (B:Nat)(IV:Int)(c:Nat)(p:PK)(r:List PK)(fp:Nat->Prop)(w:ϖ)(H:aW w B IV c (p::r) fp):Calls Ψ 161 #[B] w λe w'=>e=ϰ (χ #[φ (gG p.id p.len p.h0 p.h1 p.h2 p.h3),Kz])/\kK w w' B IV c r fp:=by
 obtain⟨R,S,f,ps,k0,k1,k2,k3,k4,k5,B',G,JX,IS,RG,fB,fR,fS,Tj⟩:=H;obtain⟨RB,SB,KE,hf,hn,hc⟩:=id G;refine δX ?_;intro nBR nBS RS TC zR0 Xd;have LY:ps[f]?=some p:=by have:=JX 0 ρp;rw[Nat.add_zero,Nat.mod_eq_of_lt hf] at this;simpa using this
 have hpl1:=IS p ρp;have Mn:=dJ (λq hq=>IS q (rt _ hq));obtain⟨by_,Nk⟩:=Nq (aE (p::r));have er:aE r=by_ - p.len:=by rw[<- Nk];simp only[aE];omega
 have SW:=ag Nk;have Er:=ag er;rw[Nk] at B' RG;rw[er] at Mn;obtain⟨n,en⟩:=Nq ((p::r).length);have n1:1<=n:=by rw[<- en];simp
 have En:=ag (show n - 1=r.length by rw[<- en];simp);rw[en] at G hn;have HP:=ag LY;clear Nk er LY en;clear RB SB;have Rr:=B'.r;go_in;go_wp2_with fail;refine mL (θ3 (Ks fp w) B' G) (λv=>ah v w (gG 0 0 0 0 0 0) 50) ρB ?_;clear Rr;rintro v1 V1 ⟨F',J',G1⟩ Rr;replace rV:=V1.r;refine(Ff R S c f n ps p _ G1 ρa HP.out).mono ?_;rintro e v2 ⟨rfl,G2,kx⟩;have JU:=J'.ko kx ρj;have V2:=V1.ko kx ρj;have Iz:KO fp w v2:=F'.trans kx ρl;replace rV:=V2.r;replace Rr:=JU.r;clear kx;have zv2:=Iz.size;go_upto_region 6 with (fail);refine jf (θ4 Iz JU G2 V2) (λv=>ah v v2 (gG p.id p.len p.h0 p.h1 p.h2 p.h3) 50) ρB ?_;clear Rr;rintro v3 X3 ⟨ID,JL,G3,V3⟩ Rr;replace rV:=V3.r;have Ss:=X3.r;have Mi:=af JL;have qV:=af V3;have qX:=af X3;refine Ws 9 (gw ?_);refine bF (θ5 JL G3 V3 X3 ID) ?_;clear Rr Ss;rintro v4 ⟨Kj,G4,V4,X4,IC⟩ Rr;replace rV:=V4.r;clear Mi qV qX JL G3 V3 X3;go_upto_region 8 with (fail);refine gX v4 (λx=>x=B) (λv=>ah v (B) #[R,ι ε IV,ι ε (by_ - p.len),(k0),ι υ (IntKind.u64.wrap (k1+1)),(k2),(k3),(k4),(k5)] 281/\ah v w (gG 0 0 0 0 0 0) 50/\ah v v2 (gG p.id p.len p.h0 p.h1 p.h2 p.h3) 50) ⟨ρB,ρB,ρB⟩ (λ_ kx=>θ2 (IC.trans kx ρl) (G4.ko kx ρj ρj)) ?_;rintro v5 ⟨KI,V5,X5⟩ ⟨IN,G5⟩;replace rV:=V5.r;replace Rr:=θ2 KI.r X5.r;have Mi:=af KI;have qV:=af V5;have qX:=af X5;refine Ws 12 (gw ?_);refine bF (θ5 KI G5 V5 X5 IN) ?_;clear Rr;rintro v6 ⟨Og,G6,V6,X6,IQ⟩ Rr;replace rV:=V6.r;clear Mi qV qX KI G5 V5 X5;go_upto_region 9 with (fail);refine gX v6 (λx=>x=B) (λv=>ah v (B) #[R,ι ε IV,ι ε (by_ - p.len),(k0),ι υ (IntKind.u64.wrap (k1+1)),(k2),(k3),ι υ (IntKind.u64.wrap (k4+p.len)),(k5)] 281/\ah v w (gG 0 0 0 0 0 0) 50/\ah v v2 (gG p.id p.len p.h0 p.h1 p.h2 p.h3) 50) ⟨ρB,ρB,ρB⟩ (λ_ kx=>θ2 (IQ.trans kx ρl) (G6.ko kx ρj ρj)) ?_;rintro v8 ⟨Qb,V8,X8⟩ ⟨Je,G8⟩;replace rV:=V8.r;replace Rr:=θ2 Qb.r X8.r;go_wp2_with fail;refine eu v8 (λx=>x=w.heap.size) (λv=>ah v (B) #[R,ι ε IV,ι ε (by_ - p.len),(k0),ι υ (IntKind.u64.wrap (k1+1)),(k2),(k3),ι υ (IntKind.u64.wrap (k4+p.len)),(k5)] 281/\ah v w (gG p.id p.len p.h0 p.h1 p.h2 p.h3) 50) ⟨ρB,ρB⟩ (λ_ kx=>θ2 (Je.trans kx ρl) (G8.ko kx ρj ρj)) ?_;rintro v9 ⟨OV,V9⟩ ⟨Jl,G9⟩;replace rV:=V9.r;replace Rr:=OV.r;refine ZO (v:=χ #[φ (gG p.id p.len p.h0 p.h1 p.h2 p.h3),Kz]) (by simp[results,Tryz.results161,go_sem,rV.1]) rfl ⟨rfl,⟨R,S,(f+1) % c,_,_,_,_,_,_,_,by rw[Er.out];exact OV,by rw[<- En.out];exact G9,xI JX hf hn KE En.out n1,λq hq=>IS q (rt _ hq),by rw[Er.out];omega,fB,fR,fS,λx hx=>ZB (Tj x hx) Jl.size⟩,Jl⟩
section
variable {m d n now:Int} {l:LF} {h dl t0 p0:Int}
end
def ed (f:Int->Int):List Int->Int
 | []=>0
 | i::r=>f i+ed f r
theorem oY {f g:Int->Int}:∀{R:List Int},(∀i ∈ R,f i<=g i)->ed f R<=ed g R
 | [],_=>ZJ _
 | i::r,h=>by have h1:=h i ρp;have h2:=oY (R:=r) (λj hj=>h j (by simp[hj]));simp only[ed];omega
theorem gL {f g:Int->Int} {R:List Int} (h:∀i ∈ R,f i=g i):ed f R=ed g R:=
 Int.le_antisymm (oY λi hi=>by rw[h i hi];exact ZJ _) (oY λi hi=>by rw[h i hi];exact ZJ _)
theorem fq {f g:Int->Int} {k x:Int}:∀{R:List Int},R.Nodup->k ∈ R->(∀i ∈ R,i≠k->f i=g i)->f k=g k+x->ed f R=ed g R+x
 | [],_,h,_,_=>by simp at h
 | i::r,hn,hk,he,hx=>by
  rw[ZD] at hn;by_cases e:i=k
  ·subst e;have:ed f r=ed g r:=gL λj hj=>he j (by simp[hj]) (λe=>hn.1 (e ▸ hj));simp only[ed];omega
  ·have hk':k ∈ r:=by rcases ZC.1 hk with h|h;exact ax h.symm e;exact h
   have:=fq hn.2 hk' (λj hj=>he j (by simp[hj])) hx;have:=he i ρp e;simp only[ed];omega
theorem jS {f:Int->Int} {R:List Int} (h:∀i ∈ R,f i=0):ed f R=0:=by
 rw[gL (g:=λ_=>0) h]
 induction R with
 | nil=>rfl
 | cons i r ih=>simp only[ed];rw[ih (λj hj=>h j (by simp[hj]))];rfl
section
variable {T Lm now:Int} {R:List Int} {c:Int->Int × Int × Int} {l l':Int->LF} {h h':Int->Int} {dl x:Int}
end
end Go.Proofs.YtfdlemkplejdnaaGreat
