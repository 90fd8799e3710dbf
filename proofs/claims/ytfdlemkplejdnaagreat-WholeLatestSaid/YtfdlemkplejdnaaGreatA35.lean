/- WholeLatest, part 35. Conditions: none. -/
import Derived.Test.YtfdlemkplejdnaaGreatA34
namespace Go.Proofs.YtfdlemkplejdnaaGreat
open Go.RowKit Go.Sort
open Value renaming int->ι,pointer->ψ,slice->ζ,tuple->χ,agg->φ,map->μ,bool->β
open IntKind renaming u64->υ,i64->ε,u16->ω
open Ending renaming returned->ϰ
open Go.Proofs.Tryz renaming prog->Ψ,underlying3->Θ,underlying147->Δ,underlying152->Γ,underlying202->Φ,underlying39->Ξ,underlying207->Ω
open Go renaming World->ϖ,Value->ϗ
set_option linter.unusedVariables false
set_option linter.unusedSimpArgs false
set_option maxHeartbeats 8000000
set_option maxRecDepth 100000
theorem aE.setB {p p':Pt} {w w':ϖ} {z:SA} {Ki ops':Int} {N:Nat} {y:YS} {B:Nat} {rs:List RL} {ex:List FW} {ms:List Int} {ft:Nat->Prop} (h:aE p w z Ki N y)(k:KO (λx=>x=z.Y) w w')(hb:ah w' z.Y #[pt z.a.S,pt z.K,pt B,pt z.S,y.clk,ι ε ops'] 129)(hT:bF w' B rs ex ms ft)(hf:∀x,ft x->x<w'.heap.size/\p' x=3)(e:∀x,x<w.heap.size->1<=p x->p x<=5->p' x=p x):aE p' w' {z with B:=B,tb:=(rs,ex,ms)} ops' N y:=by
 have hnb:=h.2.1;obtain⟨h1,h2,⟨u,b,q,h3,h4⟩,h5,-,⟨fs,h8,h9⟩,o,Rj,OS⟩:=h.part e;obtain⟨-,e2,-⟩:=h;have Ro:∀x n,p' x=n->n≠1->¬x=z.Y:=λx n e h0 hx=>by rw[hx] at e;omega
 exact⟨hb,h2,⟨u,b,q,h3.ko k (Ro _ 2 h5 ρa),h4⟩,h5,⟨ft,hT,hf⟩,⟨fs,h8.ko k (λx hx=>Ro x 4 (h9 x hx) ρa),h9⟩,o,Rj.ko k σW,λx hx=>⟨qB (OS x hx).1 k.size,(OS x hx).2⟩⟩
def FJ (z z':SA):Prop:=z'.tb=z.tb
def AW (rl:List RL)(a:Int)(y:YS)(z':SA)(y':YS):Prop:=(a=0->z'.tb=(rl,(eQ rl 0 [] []).1,(eQ rl 0 [] []).2)/\y'=y)/\(Gy rl->a=0)
def DD (op:Int)(pk:PK)(y:YS)(z z':SA)(y':YS):Prop:=z'.tb=z.tb/\(BE z.tb pk=0->qg op y (Ei z.tb pk) pk y')
def DE (op tk:Int)(y:YS)(z z':SA)(y':YS):Prop:=z'.tb=z.tb/\(tk<=4611686018427387904 - y.clk->cf op (y.clk+tk) y y')
theorem If (p:Pt)(z:SA)(Ki:Int)(N:Nat)(y:YS)(k:Int)(cv rv:ϗ)(pk:PK)(tk:Int)(w:ϖ)(H:aE p w z Ki N y)(h:y.Ok)(h6:∀x,x<w.heap.size->p x≠6)(XN:0<=Ki/\Ki<=100000)(hN:N<=400000)(hk:k≠1/\k≠2/\k≠3/\k≠4):Calls Ψ 30 #[pt z.Y,φ #[ι ε k,cv,rv,pk.id,ι ε pk.len,ι ω pk.h0,ι ω pk.h1,ι ω pk.h2,ι ω pk.h3,tk]] w λe w'=>∃a b c v z' p' y' l',e=ϰ (χ #[φ #[ι ε a,ι ε b,ι ε c],v])/\z'.Y=z.Y/\lD Ki y y'/\(∀x,x<w.heap.size->p' x=p x)/\aE p' w' z' (Ki+1) (N+2) y'/\cG w' w v l'/\(∀x,some x=v.ownBlock->p' x=0)/\(∀x,p' x≠6)/\y'.ev=y.ev++l'/\l'.length<=N+2/\KO (λx=>p x≠0) w w'/\y'.clk=y.clk/\FJ z z':=by
 have e1:(k==(1:Int))=false:=by simpa using hk.1
 have e2:(k==(2:Int))=false:=by simpa using hk.2.1
 have e3:(k==(3:Int))=false:=by simpa using hk.2.2.1
 have e4:(k==(4:Int))=false:=by simpa using hk.2.2.2
 go_in;have Y0:ah w z.Y #[pt z.a.S,pt z.K,pt z.B,pt z.S,y.clk,ι ε Ki] 129:=H.1;have Rr:=Y0.r;go_upto_region 4 with (fail);refine iq w (λ_=>False) (λv=>v.heap.size=w.heap.size+3/\ah v w #[ι ε k,cv,rv,pk.id,ι ε pk.len,ι ω pk.h0,ι ω pk.h1,ι ω pk.h2,ι ω pk.h3,tk] 80/\ah v (w+1) #[Kz,Kz,Kz] 93/\ah v (w+2) #[Kn] 33/\ah v z.Y #[pt z.a.S,pt z.K,pt z.B,pt z.S,y.clk,ι ε Ki] 129) ⟨by first|rfl|(simp;done),ρB,ρB,ρB,ρB⟩ (λ_ kx=>kx) ?_;rintro va ⟨za,X0,R0,O0,Y1⟩ ka;replace za:=ag za;have Ss:=Y1.r;have zX:=X0.size;have zR:=R0.size;have zO:=O0.size;go_upto_region 6 with (fail);refine iq va (λ_=>False) (λv=>v.heap.size=va.heap.size+1/\ah v w #[ι ε k,cv,rv,pk.id,ι ε pk.len,ι ω pk.h0,ι ω pk.h1,ι ω pk.h2,ι ω pk.h3,tk] 80/\ah v (w+1) #[Kz,Kz,Kz] 93/\ah v (w+2) #[Kn] 33/\ah v z.Y #[pt z.a.S,pt z.K,pt z.B,pt z.S,y.clk,ι ε Ki] 129/\ah v va #[ι ε Ki] 3) ⟨by first|rfl|(simp;done),ρB,ρB,ρB,ρB,ρB⟩ (λ_ kx=>kx) ?_;rintro vb ⟨zb,X1,R1,O1,Y2,P1⟩ kb;replace zb:=ag zb;clear zX zR zO X0 R0 O0 Y1;replace Ss:=Y2.r;have zX:=X1.size;have zR:=R1.size;have zO:=O1.size;have zP:=P1.size;have cX:=X1.cell;have fX:=X1.frozen;have hY0:z.Y<w:=Y0.size;have nYX:w≠z.Y:=ρa;have nYP:z.Y≠va:=by rw[za.out];omega
 go_upto_region 9 with (fail);refine iq vb (λx=>x=z.Y) (λv=>v.heap.size=vb.heap.size+1/\ah v w #[ι ε k,cv,rv,pk.id,ι ε pk.len,ι ω pk.h0,ι ω pk.h1,ι ω pk.h2,ι ω pk.h3,tk] 80/\ah v (w+1) #[Kz,Kz,Kz] 93/\ah v (w+2) #[Kn] 33/\ah v va #[ι ε Ki] 3/\ah v vb #[Ko,Kz,Kz] 93/\ah v z.Y #[pt z.a.S,pt z.K,pt z.B,pt z.S,y.clk,ι ε (Ki+1)] 129) ⟨by first|rfl|(simp;done),ρB,ρB,ρB,ρB,ρB,ρB⟩ (λ_ kx=>kx) ?_;rintro v1 ⟨z1,X2,R2,O2,P2,Q2,Y3⟩ kc;replace kc:=((ka.trans kb (λ_ _ f=>f)).mono (G:=λx=>x=z.Y) (λ_ _ f=>f.elim)).trans kc (λ_ _ e=>e);clear zX zR zO zP X1 R1 O1 Y2 P1 ka kb cX fX;have za:=za.out;have zb:=zb.out;rw[zb,za] at z1;rw[za] at P2;obtain⟨Pn,Qr⟩:=Nq va.heap.size;obtain⟨Qn,To⟩:=Nq vb.heap.size;rw[To] at Q2 zb ⊢;rw[Qr] at za zb ⊢;rw[<- za] at P2;rw[show w.heap.size+1+1=w.heap.size+2 from rfl];obtain⟨On,Qq⟩:=Nq (w.heap.size+2);rw[Qq] at O2 ⊢;have XJ:=ag Qq.symm;have Ph:=ag za;have XI:=ag zb;clear Qr To;have WM:=H.2.1;obtain⟨p1,Lz⟩:∃f:Pt,f=(λx=>if x<w.heap.size then p x else if x=On then 6 else 0):=⟨_,rfl⟩;have q1:∀x,x<w.heap.size->p1 x=p x:=λx hx=>by rw[Lz];exact qP hx
 have r1:∀x,w.heap.size<=x->x≠On->p1 x=0:=λx hx hn=>by rw[Lz];show (if _ then _ else _)=_;rw[qI ρa,qI hn]
 have o1:p1 On=6:=σt;clear Lz;have H1:aE p1 v1 z (Ki+1) N y:=(H.part (λx hx _ _=>q1 x hx)).setClk kc Y3;have E1:cu p1 v1 On w []:=⟨_,O2,ae.nil _ _,o1,λx hx=>by cases hx⟩;have I':KO (λx=>p x≠0) w v1:=kc.mono τv;have b1:w.heap.size<=v1:=ρa;have pP1:=r1 Pn ρa ρa;have Wl:=r1 Qn ρa ρa;have SP:=r1 (w+1) ρa ρa;clear Y0 kc WM;replace z1:=ag z1;clear za zb Qq;have cX:=X2.cell;have fX:=X2.frozen;have zX:=X2.size;replace Ss:=θ2 Y3.r Q2.r;go_upto_region 21 with (fail);have LS:lD Ki y y:=.nothing;have UT:([]:List EV).length<=N+2:=ρp;have Rm:y.ev=y.ev++[]:=ρp;obtain⟨ve,O9,G9,Wk,Rb⟩:=E1;have qR:p1 (w+1)=0:=SP;have qO':p1 On=6:=Wk;have nRO:On≠w+1:=λe=>by rw[e,qR] at qO';cases qO'
 have nRQ:Qn≠w+1:=σU;obtain⟨ao,co,rfl⟩:=ae.slice G9;obtain⟨ln,Om⟩:=Nq (([]:List EV).length);rw[Om] at O9 G9 Rb;clear cX fX zX;replace Ss:=Q2.r;have cO:=O9.cell;have fO:=O9.frozen;have zO:=O9.size;have cR:=R2.cell;have fR:=R2.frozen;have zR:=R2.size;go_region
 all_goals
  go_wp2_with fail;refine eR v1 (λx=>x=w.heap.size+1) (λu=>ah u (w+1) #[Ko,Kz,Kz] 93) ρB (λ_ kx=>kx) ?_;rintro u Ru ku;clear cO fO zO cR fR zR;have cR:=Ru.cell;refine qO (v:=χ #[φ #[Ko,Kz,Kz],ζ ao ln co]) σO rfl ?_;refine⟨1,0,0,_,z,λx=>if p1 x=6 then 0 else p1 x,y,[],rfl,rfl,LS,λx hx=>?_,(((H1.ko ku τf)).mono ρa).part (λx _ h1 h5=>qI ρa),?_,λx hx=>?_,λx=>?_,Rm,UT,I'.trans ku (λx hx e=>ax e ρa),rfl,(rfl:FJ z z)⟩
  ·have e:=q1 x hx;have:=h6 x hx;show (if _ then _ else _)=_;rw[qI τ9,e]
  ·exact ae.ko G9 ku σl
  ·show (if _ then _ else _)=_;rw[qP (Rb x hx)]
  ·show (if _ then _ else _)≠_;split;omega;assumption
theorem Ih (p:Pt)(z:SA)(Ki:Int)(N:Nat)(y:YS)(cv rv:ϗ)(pk:PK)(tk:Int)(w:ϖ)(H:aE p w z Ki N y)(h:y.Ok)(h6:∀x,x<w.heap.size->p x≠6)(XN:0<=Ki/\Ki<=100000)(hN:N<=400000):Calls Ψ 30 #[pt z.Y,φ #[ι ε 3,cv,rv,pk.id,ι ε pk.len,ι ω pk.h0,ι ω pk.h1,ι ω pk.h2,ι ω pk.h3,tk]] w λe w'=>∃a b c v z' p' y' l',e=ϰ (χ #[φ #[ι ε a,ι ε b,ι ε c],v])/\z'.Y=z.Y/\lD Ki y y'/\(∀x,x<w.heap.size->p' x=p x)/\aE p' w' z' (Ki+1) (N+2) y'/\cG w' w v l'/\(∀x,some x=v.ownBlock->p' x=0)/\(∀x,p' x≠6)/\y'.ev=y.ev++l'/\l'.length<=N+2/\KO (λx=>p x≠0) w w'/\y'.clk=y.clk/\DD Ki pk y z z' y':=by
 go_in;have Y0:ah w z.Y #[pt z.a.S,pt z.K,pt z.B,pt z.S,y.clk,ι ε Ki] 129:=H.1;have Rr:=Y0.r;go_upto_region 4 with (fail);refine iq w (λ_=>False) (λv=>v.heap.size=w.heap.size+3/\ah v w #[ι ε 3,cv,rv,pk.id,ι ε pk.len,ι ω pk.h0,ι ω pk.h1,ι ω pk.h2,ι ω pk.h3,tk] 80/\ah v (w+1) #[Kz,Kz,Kz] 93/\ah v (w+2) #[Kn] 33/\ah v z.Y #[pt z.a.S,pt z.K,pt z.B,pt z.S,y.clk,ι ε Ki] 129) ⟨by first|rfl|(simp;done),ρB,ρB,ρB,ρB⟩ (λ_ kx=>kx) ?_;rintro va ⟨za,X0,R0,O0,Y1⟩ ka;replace za:=ag za;have Ss:=Y1.r;have zX:=X0.size;have zR:=R0.size;have zO:=O0.size;go_upto_region 6 with (fail);refine iq va (λ_=>False) (λv=>v.heap.size=va.heap.size+1/\ah v w #[ι ε 3,cv,rv,pk.id,ι ε pk.len,ι ω pk.h0,ι ω pk.h1,ι ω pk.h2,ι ω pk.h3,tk] 80/\ah v (w+1) #[Kz,Kz,Kz] 93/\ah v (w+2) #[Kn] 33/\ah v z.Y #[pt z.a.S,pt z.K,pt z.B,pt z.S,y.clk,ι ε Ki] 129/\ah v va #[ι ε Ki] 3) ⟨by first|rfl|(simp;done),ρB,ρB,ρB,ρB,ρB⟩ (λ_ kx=>kx) ?_;rintro vb ⟨zb,X1,R1,O1,Y2,P1⟩ kb;replace zb:=ag zb;clear zX zR zO X0 R0 O0 Y1;replace Ss:=Y2.r;have zX:=X1.size;have zR:=R1.size;have zO:=O1.size;have zP:=P1.size;have cX:=X1.cell;have fX:=X1.frozen;have hY0:z.Y<w:=Y0.size;have nYX:w≠z.Y:=ρa;have nYP:z.Y≠va:=by rw[za.out];omega
 go_upto_region 9 with (fail);refine iq vb (λx=>x=z.Y) (λv=>v.heap.size=vb.heap.size+1/\ah v w #[ι ε 3,cv,rv,pk.id,ι ε pk.len,ι ω pk.h0,ι ω pk.h1,ι ω pk.h2,ι ω pk.h3,tk] 80/\ah v (w+1) #[Kz,Kz,Kz] 93/\ah v (w+2) #[Kn] 33/\ah v va #[ι ε Ki] 3/\ah v vb #[Ko,Kz,Kz] 93/\ah v z.Y #[pt z.a.S,pt z.K,pt z.B,pt z.S,y.clk,ι ε (Ki+1)] 129) ⟨by first|rfl|(simp;done),ρB,ρB,ρB,ρB,ρB,ρB⟩ (λ_ kx=>kx) ?_;rintro v1 ⟨z1,X2,R2,O2,P2,Q2,Y3⟩ kc;replace kc:=((ka.trans kb (λ_ _ f=>f)).mono (G:=λx=>x=z.Y) (λ_ _ f=>f.elim)).trans kc (λ_ _ e=>e);clear zX zR zO zP X1 R1 O1 Y2 P1 ka kb cX fX;have za:=za.out;have zb:=zb.out;rw[zb,za] at z1;rw[za] at P2;obtain⟨Pn,Qr⟩:=Nq va.heap.size;obtain⟨Qn,To⟩:=Nq vb.heap.size;rw[To] at Q2 zb ⊢;rw[Qr] at za zb ⊢;rw[<- za] at P2;rw[show w.heap.size+1+1=w.heap.size+2 from rfl];obtain⟨On,Qq⟩:=Nq (w.heap.size+2);rw[Qq] at O2 ⊢;have XJ:=ag Qq.symm;have Ph:=ag za;have XI:=ag zb;clear Qr To;have WM:=H.2.1;obtain⟨p1,Lz⟩:∃f:Pt,f=(λx=>if x<w.heap.size then p x else if x=On then 6 else 0):=⟨_,rfl⟩;have q1:∀x,x<w.heap.size->p1 x=p x:=λx hx=>by rw[Lz];exact qP hx
 have r1:∀x,w.heap.size<=x->x≠On->p1 x=0:=λx hx hn=>by rw[Lz];show (if _ then _ else _)=_;rw[qI ρa,qI hn]
 have o1:p1 On=6:=σt;clear Lz;have H1:aE p1 v1 z (Ki+1) N y:=(H.part (λx hx _ _=>q1 x hx)).setClk kc Y3;have E1:cu p1 v1 On w []:=⟨_,O2,ae.nil _ _,o1,λx hx=>by cases hx⟩;have I':KO (λx=>p x≠0) w v1:=kc.mono τv;have b1:w.heap.size<=v1:=ρa;have pP1:=r1 Pn ρa ρa;have Wl:=r1 Qn ρa ρa;have SP:=r1 (w+1) ρa ρa;clear Y0 kc WM;replace z1:=ag z1;clear za zb Qq;have cX:=X2.cell;have fX:=X2.frozen;have zX:=X2.size;replace Ss:=θ2 Y3.r Q2.r;go_wp2_with fail;refine(CV p1 z (Ki+1) N y Pn On w Ki pk [] y.ev v1 H1 h P2 pP1 E1 ρp ρF b1).mono ?_;rintro e v2 ⟨a,c,p2,y2,l2,rfl,LS,Pr,H2,E2,Rm,Nk,k2,XA,hx9⟩;have z2:=k2.size;have R3:=R2.ko k2 (λh=>h SP);have Q3:=Q2.ko k2 (λh=>h Wl);have z1':=z1.out;have zz1:=Ph.out;have ZA:=XI.out;have zz3:=XJ.out;have q2:∀x,x<w.heap.size->p2 x=p x:=λx hx=>(Pr x ρa).trans (q1 x hx);have Yg:p2 (w+1)=0:=(Pr _ ρa).trans SP;have pQ2:p2 Qn=0:=(Pr _ ρa).trans Wl;have pO2:p2 On=6:=(Pr _ ρa).trans o1;have J':KO (λx=>p x≠0) w v2:=I'.trans k2 (λx hx h=>by rw[<- q1 x hx];exact h);clear cX fX zX;replace Ss:=Q3.r;have zR3:=R3.size;have Rx:w+1≠Qn:=ρa;have gQ:w<=Qn:=ρa;clear z1' zz1 ZA zz3;go_upto_region 21 with (fail);refine iq v2 (λx=>x=Qn) (λu=>ah u Qn #[ι ε a,Kz,ι ε c] 93) ρB (λ_ kx=>kx) ?_;rintro v3 Q4 k3;have H3:=H2.ko k3 τ6;have E3:=E2.ko k3 σp;have R4:=R3.ko k3 Rx;have Kk:=J'.trans k3 (λx hx e=>ax e ρa);clear H1 E1 H2 E2 R2 R3 Q2 Q3;have UT:l2.length<=N+2:=by simp at Nk;omega
 replace hx9:DD Ki pk y z z y2:=⟨rfl,hx9⟩;obtain⟨ve,O9,G9,Wk,Rb⟩:=E3;have qR:p2 (w+1)=0:=Yg;have qO':p2 On=6:=Wk;have nRO:On≠w+1:=λe=>by rw[e,qR] at qO';cases qO'
 have nRQ:Qn≠w+1:=σU;obtain⟨ao,co,rfl⟩:=ae.slice G9;obtain⟨ln,Om⟩:=Nq ((l2:List EV).length);rw[Om] at O9 G9 Rb;replace Ss:=Q4.r;have cO:=O9.cell;have fO:=O9.frozen;have zO:=O9.size;have cR:=R4.cell;have fR:=R4.frozen;have zR:=R4.size;go_region
 all_goals
  go_wp2_with fail;refine eR v3 (λx=>x=w.heap.size+1) (λu=>ah u (w+1) #[ι ε a,Kz,ι ε c] 93) ρB (λ_ kx=>kx) ?_;rintro u Ru ku;clear cO fO zO cR fR zR;have cR:=Ru.cell;refine qO (v:=χ #[φ #[ι ε a,Kz,ι ε c],ζ ao ln co]) σO rfl ?_;refine⟨a,0,c,_,z,λx=>if p2 x=6 then 0 else p2 x,y2,l2,rfl,rfl,LS,λx hx=>?_,(((H3.ko ku τf)).mono ρa).part (λx _ h1 h5=>qI ρa),?_,λx hx=>?_,λx=>?_,Rm,UT,Kk.trans ku (λx hx e=>ax e ρa),XA,hx9⟩
  ·have e:=q2 x hx;have:=h6 x hx;show (if _ then _ else _)=_;rw[qI τ9,e]
  ·exact ae.ko G9 ku σl
  ·show (if _ then _ else _)=_;rw[qP (Rb x hx)]
  ·show (if _ then _ else _)≠_;split;omega;assumption
theorem Ii (p:Pt)(z:SA)(Ki:Int)(N:Nat)(y:YS)(cv rv:ϗ)(pk:PK)(tk:Int)(w:ϖ)(H:aE p w z Ki N y)(h:y.Ok)(h6:∀x,x<w.heap.size->p x≠6)(XN:0<=Ki/\Ki<=100000)(hN:N<=400000)(TB:an tk):Calls Ψ 30 #[pt z.Y,φ #[ι ε 4,cv,rv,pk.id,ι ε pk.len,ι ω pk.h0,ι ω pk.h1,ι ω pk.h2,ι ω pk.h3,tk]] w λe w'=>∃a b c v z' p' y' l',e=ϰ (χ #[φ #[ι ε a,ι ε b,ι ε c],v])/\z'.Y=z.Y/\lD Ki y y'/\(∀x,x<w.heap.size->p' x=p x)/\aE p' w' z' (Ki+1) (N+2) y'/\cG w' w v l'/\(∀x,some x=v.ownBlock->p' x=0)/\(∀x,p' x≠6)/\y'.ev=y.ev++l'/\l'.length<=N+2/\KO (λx=>p x≠0) w w'/\y'.clk=(if tk<=4611686018427387904 - y.clk then y.clk+tk else y.clk)/\DE Ki tk y z z' y':=by
 obtain⟨ck,Qt⟩:=Nq (if tk<=4611686018427387904 - y.clk then y.clk+tk else y.clk);rw[Qt];replace Qt:=ag Qt;go_in;have Y0:ah w z.Y #[pt z.a.S,pt z.K,pt z.B,pt z.S,y.clk,ι ε Ki] 129:=H.1;have Rr:=Y0.r;go_upto_region 4 with (fail);refine iq w (λ_=>False) (λv=>v.heap.size=w.heap.size+3/\ah v w #[ι ε 4,cv,rv,pk.id,ι ε pk.len,ι ω pk.h0,ι ω pk.h1,ι ω pk.h2,ι ω pk.h3,tk] 80/\ah v (w+1) #[Kz,Kz,Kz] 93/\ah v (w+2) #[Kn] 33/\ah v z.Y #[pt z.a.S,pt z.K,pt z.B,pt z.S,y.clk,ι ε Ki] 129) ⟨by first|rfl|(simp;done),ρB,ρB,ρB,ρB⟩ (λ_ kx=>kx) ?_;rintro va ⟨za,X0,R0,O0,Y1⟩ ka;replace za:=ag za;have Ss:=Y1.r;have zX:=X0.size;have zR:=R0.size;have zO:=O0.size;go_upto_region 6 with (fail);refine iq va (λ_=>False) (λv=>v.heap.size=va.heap.size+1/\ah v w #[ι ε 4,cv,rv,pk.id,ι ε pk.len,ι ω pk.h0,ι ω pk.h1,ι ω pk.h2,ι ω pk.h3,tk] 80/\ah v (w+1) #[Kz,Kz,Kz] 93/\ah v (w+2) #[Kn] 33/\ah v z.Y #[pt z.a.S,pt z.K,pt z.B,pt z.S,y.clk,ι ε Ki] 129/\ah v va #[ι ε Ki] 3) ⟨by first|rfl|(simp;done),ρB,ρB,ρB,ρB,ρB⟩ (λ_ kx=>kx) ?_;rintro vb ⟨zb,X1,R1,O1,Y2,P1⟩ kb;replace zb:=ag zb;clear zX zR zO X0 R0 O0 Y1;replace Ss:=Y2.r;have zX:=X1.size;have zR:=R1.size;have zO:=O1.size;have zP:=P1.size;have cX:=X1.cell;have fX:=X1.frozen;have hY0:z.Y<w:=Y0.size;have nYX:w≠z.Y:=ρa;have nYP:z.Y≠va:=by rw[za.out];omega
 go_upto_region 9 with (fail);refine iq vb (λx=>x=z.Y) (λv=>v.heap.size=vb.heap.size+1/\ah v w #[ι ε 4,cv,rv,pk.id,ι ε pk.len,ι ω pk.h0,ι ω pk.h1,ι ω pk.h2,ι ω pk.h3,tk] 80/\ah v (w+1) #[Kz,Kz,Kz] 93/\ah v (w+2) #[Kn] 33/\ah v va #[ι ε Ki] 3/\ah v vb #[Ko,Kz,Kz] 93/\ah v z.Y #[pt z.a.S,pt z.K,pt z.B,pt z.S,y.clk,ι ε (Ki+1)] 129) ⟨by first|rfl|(simp;done),ρB,ρB,ρB,ρB,ρB,ρB⟩ (λ_ kx=>kx) ?_;rintro v1 ⟨z1,X2,R2,O2,P2,Q2,Y3⟩ kc;replace kc:=((ka.trans kb (λ_ _ f=>f)).mono (G:=λx=>x=z.Y) (λ_ _ f=>f.elim)).trans kc (λ_ _ e=>e);clear zX zR zO zP X1 R1 O1 Y2 P1 ka kb cX fX;have za:=za.out;have zb:=zb.out;rw[zb,za] at z1;rw[za] at P2;obtain⟨Pn,Qr⟩:=Nq va.heap.size;obtain⟨Qn,To⟩:=Nq vb.heap.size;rw[To] at Q2 zb ⊢;rw[Qr] at za zb ⊢;rw[<- za] at P2;rw[show w.heap.size+1+1=w.heap.size+2 from rfl];obtain⟨On,Qq⟩:=Nq (w.heap.size+2);rw[Qq] at O2 ⊢;have XJ:=ag Qq.symm;have Ph:=ag za;have XI:=ag zb;clear Qr To;have WM:=H.2.1;obtain⟨p1,Lz⟩:∃f:Pt,f=(λx=>if x<w.heap.size then p x else if x=On then 6 else 0):=⟨_,rfl⟩;have q1:∀x,x<w.heap.size->p1 x=p x:=λx hx=>by rw[Lz];exact qP hx
 have r1:∀x,w.heap.size<=x->x≠On->p1 x=0:=λx hx hn=>by rw[Lz];show (if _ then _ else _)=_;rw[qI ρa,qI hn]
 have o1:p1 On=6:=σt;clear Lz;have H1:aE p1 v1 z (Ki+1) N y:=(H.part (λx hx _ _=>q1 x hx)).setClk kc Y3;have E1:cu p1 v1 On w []:=⟨_,O2,ae.nil _ _,o1,λx hx=>by cases hx⟩;have I':KO (λx=>p x≠0) w v1:=kc.mono τv;have b1:w.heap.size<=v1:=ρa;have pP1:=r1 Pn ρa ρa;have Wl:=r1 Qn ρa ρa;have SP:=r1 (w+1) ρa ρa;clear Y0 kc WM;replace z1:=ag z1;clear za zb Qq;have cX:=X2.cell;have fX:=X2.frozen;have zX:=X2.size;replace Ss:=θ2 Y3.r Q2.r;go_wp2_with fail;refine(AQ p1 z (Ki+1) N y Pn On w Ki tk [] y.ev v1 H1 h P2 pP1 E1 ρp ρF b1 TB).mono ?_;rintro e v2 ⟨a,p2,y2,l2,rfl,LS,Pr,H2,E2,Rm,Nk,k2,XA,hx9⟩;have z2:=k2.size;have R3:=R2.ko k2 (λh=>h SP);have Q3:=Q2.ko k2 (λh=>h Wl);have z1':=z1.out;have zz1:=Ph.out;have ZA:=XI.out;have zz3:=XJ.out;have q2:∀x,x<w.heap.size->p2 x=p x:=λx hx=>(Pr x ρa).trans (q1 x hx);have Yg:p2 (w+1)=0:=(Pr _ ρa).trans SP;have pQ2:p2 Qn=0:=(Pr _ ρa).trans Wl;have pO2:p2 On=6:=(Pr _ ρa).trans o1;have J':KO (λx=>p x≠0) w v2:=I'.trans k2 (λx hx h=>by rw[<- q1 x hx];exact h);clear cX fX zX;replace Ss:=Q3.r;have zR3:=R3.size;have Rx:w+1≠Qn:=ρa;have gQ:w<=Qn:=ρa;clear z1' zz1 ZA zz3;go_upto_region 21 with (fail);refine iq v2 (λx=>x=Qn) (λu=>ah u Qn #[ι ε a,Kz,Kz] 93) ρB (λ_ kx=>kx) ?_;rintro v3 Q4 k3;have H3:=H2.ko k3 τ6;have E3:=E2.ko k3 σp;have R4:=R3.ko k3 Rx;have Kk:=J'.trans k3 (λx hx e=>ax e ρa);clear H1 E1 H2 E2 R2 R3 Q2 Q3;rw[Qt.out] at XA;have UT:l2.length<=N+2:=by simp at Nk;omega
 replace hx9:DE Ki tk y z z y2:=⟨rfl,hx9⟩;obtain⟨ve,O9,G9,Wk,Rb⟩:=E3;have qR:p2 (w+1)=0:=Yg;have qO':p2 On=6:=Wk;have nRO:On≠w+1:=λe=>by rw[e,qR] at qO';cases qO'
 have nRQ:Qn≠w+1:=σU;obtain⟨ao,co,rfl⟩:=ae.slice G9;obtain⟨ln,Om⟩:=Nq ((l2:List EV).length);rw[Om] at O9 G9 Rb;replace Ss:=Q4.r;have cO:=O9.cell;have fO:=O9.frozen;have zO:=O9.size;have cR:=R4.cell;have fR:=R4.frozen;have zR:=R4.size;go_region
 all_goals
  go_wp2_with fail;refine eR v3 (λx=>x=w.heap.size+1) (λu=>ah u (w+1) #[ι ε a,Kz,Kz] 93) ρB (λ_ kx=>kx) ?_;rintro u Ru ku;clear cO fO zO cR fR zR;have cR:=Ru.cell;refine qO (v:=χ #[φ #[ι ε a,Kz,Kz],ζ ao ln co]) σO rfl ?_;refine⟨a,0,0,_,z,λx=>if p2 x=6 then 0 else p2 x,y2,l2,rfl,rfl,LS,λx hx=>?_,(((H3.ko ku τf)).mono ρa).part (λx _ h1 h5=>qI ρa),?_,λx hx=>?_,λx=>?_,Rm,UT,Kk.trans ku (λx hx e=>ax e ρa),XA,hx9⟩
  ·have e:=q2 x hx;have:=h6 x hx;show (if _ then _ else _)=_;rw[qI τ9,e]
  ·exact ae.ko G9 ku σl
  ·show (if _ then _ else _)=_;rw[qP (Rb x hx)]
  ·show (if _ then _ else _)≠_;split;omega;assumption
theorem Ig (p:Pt)(z:SA)(Ki:Int)(N:Nat)(y:YS)(cv rv:ϗ)(pk:PK)(tk:Int)(rl:List RL)(B:Nat)(w:ϖ)(H:aE p w z Ki N y)(h:y.Ok)(h6:∀x,x<w.heap.size->p x≠6)(XN:0<=Ki/\Ki<=100000)(hN:N<=400000)(G:aK 9 qc w B rv rl)(Nv:rl.length<=1000)(hB:∀x,x<B->p x=0):Calls Ψ 30 #[pt z.Y,φ #[ι ε 2,cv,rv,pk.id,ι ε pk.len,ι ω pk.h0,ι ω pk.h1,ι ω pk.h2,ι ω pk.h3,tk]] w λe w'=>∃a b c v z' p' y' l',e=ϰ (χ #[φ #[ι ε a,ι ε b,ι ε c],v])/\z'.Y=z.Y/\lD Ki y y'/\(∀x,x<w.heap.size->p' x=p x)/\aE p' w' z' (Ki+1) (N+2) y'/\cG w' w v l'/\(∀x,some x=v.ownBlock->p' x=0)/\(∀x,p' x≠6)/\y'.ev=y.ev++l'/\l'.length<=N+2/\KO (λx=>p x≠0) w w'/\y'.clk=y.clk/\AW rl a y z' y':=by
 obtain⟨ra,rc,rfl,-⟩:=G.slice;obtain⟨rn,Uf⟩:=Nq rl.length;have G0:=G;rw[Uf] at G0 ⊢;go_in;have Y0:ah w z.Y #[pt z.a.S,pt z.K,pt z.B,pt z.S,y.clk,ι ε Ki] 129:=H.1;have rY:=Y0.r;go_upto_region 4 with (fail);refine iq w (λ_=>False) (λv=>v.heap.size=w.heap.size+3/\ah v w #[ι ε 2,cv,ζ ra rn rc,pk.id,ι ε pk.len,ι ω pk.h0,ι ω pk.h1,ι ω pk.h2,ι ω pk.h3,tk] 80/\ah v (w+1) #[Kz,Kz,Kz] 93/\ah v (w+2) #[Kn] 33/\ah v z.Y #[pt z.a.S,pt z.K,pt z.B,pt z.S,y.clk,ι ε Ki] 129) ⟨by first|rfl|(simp;done),ρB,ρB,ρB,ρB⟩ (λ_ kx=>kx) ?_;rintro va ⟨za,X0,R0,O0,Y1⟩ ka;replace za:=ag za;clear rY;have rY:=Y1.r;have zX:=X0.size;have zR:=R0.size;have zO:=O0.size;go_upto_region 6 with (fail);refine iq va (λ_=>False) (λv=>v.heap.size=va.heap.size+1/\ah v w #[ι ε 2,cv,ζ ra rn rc,pk.id,ι ε pk.len,ι ω pk.h0,ι ω pk.h1,ι ω pk.h2,ι ω pk.h3,tk] 80/\ah v (w+1) #[Kz,Kz,Kz] 93/\ah v (w+2) #[Kn] 33/\ah v z.Y #[pt z.a.S,pt z.K,pt z.B,pt z.S,y.clk,ι ε Ki] 129/\ah v va #[ι ε Ki] 3) ⟨by first|rfl|(simp;done),ρB,ρB,ρB,ρB,ρB⟩ (λ_ kx=>kx) ?_;rintro vb ⟨zb,X1,R1,O1,Y2,P1⟩ kb;replace zb:=ag zb;clear rY zX zR zO X0 R0 O0 Y1;have rY:=Y2.r;have zX:=X1.size;have zR:=R1.size;have zO:=O1.size;have zP:=P1.size;have cX:=X1.cell;have fX:=X1.frozen;have hY0:z.Y<w:=Y0.size;have nYX:w≠z.Y:=ρa;have nYP:z.Y≠va:=by rw[za.out];omega
 go_upto_region 9 with (fail);refine iq vb (λx=>x=z.Y) (λv=>v.heap.size=vb.heap.size+1/\ah v w #[ι ε 2,cv,ζ ra rn rc,pk.id,ι ε pk.len,ι ω pk.h0,ι ω pk.h1,ι ω pk.h2,ι ω pk.h3,tk] 80/\ah v (w+1) #[Kz,Kz,Kz] 93/\ah v (w+2) #[Kn] 33/\ah v va #[ι ε Ki] 3/\ah v vb #[Ko,Kz,Kz] 93/\ah v z.Y #[pt z.a.S,pt z.K,pt z.B,pt z.S,y.clk,ι ε (Ki+1)] 129) ⟨by first|rfl|(simp;done),ρB,ρB,ρB,ρB,ρB,ρB⟩ (λ_ kx=>kx) ?_;rintro v1 ⟨z1,X2,R2,O2,P2,Q2,Y3⟩ kc;replace kc:=((ka.trans kb (λ_ _ f=>f)).mono (G:=λx=>x=z.Y) (λ_ _ f=>f.elim)).trans kc (λ_ _ e=>e);clear rY zX zR zO zP X1 R1 O1 Y2 P1 ka kb cX fX;have za:=za.out;have zb:=zb.out;rw[zb,za] at z1;rw[za] at P2;obtain⟨Pn,Qr⟩:=Nq va.heap.size;obtain⟨Qn,To⟩:=Nq vb.heap.size;rw[To] at Q2 zb ⊢;rw[Qr] at za zb ⊢;rw[<- za] at P2;rw[show w.heap.size+1+1=w.heap.size+2 from rfl];obtain⟨On,Qq⟩:=Nq (w.heap.size+2);rw[Qq] at O2 ⊢;have XJ:=ag Qq.symm;have Ph:=ag za;have XI:=ag zb;clear Qr To;have WM:=H.2.1;obtain⟨p1,Lz⟩:∃f:Pt,f=(λx=>if x<w.heap.size then p x else if x=On then 6 else 0):=⟨_,rfl⟩;have q1:∀x,x<w.heap.size->p1 x=p x:=λx hx=>by rw[Lz];exact qP hx
 have r1:∀x,w.heap.size<=x->x≠On->p1 x=0:=λx hx hn=>by rw[Lz];show (if _ then _ else _)=_;rw[qI ρa,qI hn]
 have o1:p1 On=6:=σt;clear Lz;have H1:aE p1 v1 z (Ki+1) N y:=(H.part (λx hx _ _=>q1 x hx)).setClk kc Y3;have E1:cu p1 v1 On w []:=⟨_,O2,ae.nil _ _,o1,λx hx=>by cases hx⟩;have I':KO (λx=>p x≠0) w v1:=kc.mono τv;have b1:w.heap.size<=v1:=ρa;have pP1:=r1 Pn ρa ρa;have Wl:=r1 Qn ρa ρa;have SP:=r1 (w+1) ρa ρa;clear Y0 kc WM;replace z1:=ag z1;clear za zb Qq;have cX:=X2.cell;have fX:=X2.frozen;have zX:=X2.size;have rY:=Y3.r;have cQ:=Q2.cell;have fQ:=Q2.frozen;have zQ:=Q2.size;have G1:=G0.ko I' (λx hx e=>e (hB x hx));have z1':=z1.out;have zz1:=Ph.out;have ZA:=XI.out;have zz3:=XJ.out;have Rx:w+1≠Qn:=ρa;have gQ:w<=Qn:=ρa;have nYQ:z.Y≠Qn:=ρa;have nYR:z.Y≠w+1:=ρa;have zO1:On<v1:=O2.size;have nYO:z.Y≠On:=ρa;clear z1' zz1 ZA zz3;go_wp2_with fail;refine(Dk _ rl B v1 G1 Nv).mono ?_;rintro e v2 ⟨u,n,rfl,k2,h2⟩;have z2:=k2.size;have R3:=R2.below k2 R2.size;have Q3:=Q2.below k2 zQ;have Y4:=Y3.below k2 rY.2.2;obtain⟨H2,E2,J'⟩:=Mw k2 (θ3 H1 E1 I');clear cX fX zX rY cQ fQ H1 E1 R2 X2 G1;have cQ:=Q3.cell;have fQ:=Q3.frozen;have zQ2:=Q3.size;have rY:=Y4.r;have zR3:=R3.size;have LS:lD Ki y y:=.nothing;have UT:([]:List EV).length<=N+2:=ρp;have Rm:y.ev=y.ev++[]:=ρp;by_cases hn:n=0
 ·obtain⟨B2,fp,rfl,OD,T2⟩:∃B2 fp,u=pt B2/\(∀x,fp x->v1.heap.size<=x)/\bF v2 B2 rl (eQ rl 0 [] []).1 (eQ rl 0 [] []).2 fp:=by rcases h2 with ⟨g,_⟩|⟨_,g⟩;exact ax hn g;exact g
  subst hn;go_upto_region 16 with (fail);refine iq v2 (λx=>x=z.Y) (λu=>ah u z.Y #[pt z.a.S,pt z.K,pt B2,pt z.S,y.clk,ι ε (Ki+1)] 129) ρB (λ_ kx=>kx) ?_;rintro v3 Y5 k3;have Ku:∀x,fp x->x<v2.heap.size:=by obtain⟨_,_,_,_,_,_,_,_,_,_,_,_,g⟩:=T2;exact g
  have zk3:=k3.size;obtain⟨p2,PN⟩:=Nq (p1.more v1 3);have Pr:∀x,x<v1.heap.size->p2 x=p1 x:=λx hx=>by rw[<- PN];exact Pt.more_lt hx
  have q23:∀x,v1.heap.size<=x->p2 x=3:=λx hx=>by rw[<- PN];exact Pt.more_ge hx
  clear PN;have H3:=H2.setB (p':=p2) k3 Y5 (T2.ko k3 (λx hx e=>by have:=OD x hx;omega)) (λx hx=>⟨qB (Ku x hx) zk3,q23 x (OD x hx)⟩) (λx hx h1 h5=>by by_cases e:x<v1;exact Pr x e;exfalso;have:=r1 x ρa ρa;omega);have E3:=(E2.part (p':=p2) (λx hx e=>by by_cases g:x<v1;exact(Pr x g).trans e;exfalso;have:=r1 x ρa ρa;omega)).ko k3 (λx hx e=>by have:=H3.2.1;rw[e] at hx;have g:p2 z.Y=1:=this;omega);have R4:=R3.ko k3 (Ne.symm nYR);have Q5:=Q3.ko k3 (Ne.symm nYQ);have Kk:=J'.trans k3 (λx hx e=>by have:=H.2.1;rw[e];omega);have q2:∀x,x<w.heap.size->p2 x=p x:=λx hx=>(Pr x ρa).trans (q1 x hx);have zR1:w.heap.size+1<v1:=τl;have Yg:p2 (w+1)=0:=(Pr _ zR1).trans SP;have pQ2:p2 Qn=0:=(Pr _ zQ).trans Wl;have pO2:p2 On=6:=(Pr _ zO1).trans o1;clear rY cQ fQ zQ2 H2 E2 R3 Q3 Y4;have cQ:=Q5.cell;have fQ:=Q5.frozen;have zQ5:=Q5.size;go_upto_region 21 with (fail);refine iq v3 (λx=>x=Qn) (λu=>ah u Qn #[Kz,Kz,Kz] 93) ρB (λ_ kx=>kx) ?_;rintro v4 Q4 k4;have H4:=H3.ko k4 τ6;have E4:=E3.ko k4 σp;have R5:=R4.ko k4 Rx;have Km:=Kk.trans k4 (λx hx e=>ax e ρa);clear H3 E3 R4 Q5;obtain⟨ve,O9,G9,Wk,Rb⟩:=E4;have qR:p2 (w+1)=0:=Yg;have qO':p2 On=6:=Wk;have nRO:On≠w+1:=λe=>by rw[e,qR] at qO';cases qO'
  have nRQ:Qn≠w+1:=σU;obtain⟨ao,co,rfl⟩:=ae.slice G9;obtain⟨ln,Om⟩:=Nq (([]:List EV).length);rw[Om] at O9 G9 Rb;clear cQ fQ zQ;have cQ:=Q4.cell;have fQ:=Q4.frozen;have zQ:=Q4.size;have cO:=O9.cell;have fO:=O9.frozen;have zO:=O9.size;have cR:=R5.cell;have fR:=R5.frozen;have zR:=R5.size;go_region
  all_goals
   go_wp2_with fail;refine eR v4 (λx=>x=w.heap.size+1) (λu=>ah u (w+1) #[Kz,Kz,Kz] 93) ρB (λ_ kx=>kx) ?_;rintro u Ru ku;clear cQ fQ zQ cO fO zO cR fR zR;have cR:=Ru.cell;refine qO (v:=χ #[φ #[Kz,Kz,Kz],ζ ao ln co]) σO rfl ?_;refine⟨0,0,0,_,{z with B:=B2,tb:=(rl,(eQ rl 0 [] []).1,(eQ rl 0 [] []).2)},λx=>if p2 x=6 then 0 else p2 x,y,[],rfl,rfl,LS,λx hx=>?_,(((H4.ko ku τf)).mono ρa).part (λx _ h1 h5=>qI ρa),?_,λx hx=>?_,λx=>?_,Rm,UT,Km.trans ku (λx hx e=>ax e ρa),rfl,(⟨λ_=>⟨rfl,rfl⟩,λ_=>rfl⟩:AW rl 0 y {z with B:=B2,tb:=(rl,(eQ rl 0 [] []).1,(eQ rl 0 [] []).2)} y)⟩
   ·have e:=q2 x hx;have:=h6 x hx;show (if _ then _ else _)=_;rw[qI τ9,e]
   ·exact ae.ko G9 ku σl
   ·show (if _ then _ else _)=_;rw[qP (Rb x hx)]
   ·show (if _ then _ else _)≠_;split;omega;assumption
 ·have d1:(n==0)=false:=by simpa using hn
  have hbad:¬Gy rl:=by rcases h2 with ⟨_,g⟩|⟨g,_⟩;exact g;exact ax g hn
  go_upto_region 21 with (fail);refine iq v2 (λx=>x=Qn) (λu=>ah u Qn #[ι ε n,Kz,Kz] 93) ρB (λ_ kx=>kx) ?_;rintro v3 Q4 k3;have H3:=H2.ko k3 (λx e=>by rw[e];exact .inl Wl);have E3:=E2.ko k3 σp;have R4:=R3.ko k3 Rx;have Kk:=J'.trans k3 (λx hx e=>ax e ρa);clear H2 E2 R3 Q3;obtain⟨ve,O9,G9,Wk,Rb⟩:=E3;have qR:p1 (w+1)=0:=SP;have qO':p1 On=6:=Wk;have nRO:On≠w+1:=λe=>by rw[e,qR] at qO';cases qO'
  have nRQ:Qn≠w+1:=σU;obtain⟨ao,co,rfl⟩:=ae.slice G9;obtain⟨ln,Om⟩:=Nq (([]:List EV).length);rw[Om] at O9 G9 Rb;clear rY cQ fQ zQ;have cQ:=Q4.cell;have fQ:=Q4.frozen;have zQ:=Q4.size;have cO:=O9.cell;have fO:=O9.frozen;have zO:=O9.size;have cR:=R4.cell;have fR:=R4.frozen;have zR:=R4.size;go_region
  all_goals
   go_wp2_with fail;refine eR v3 (λx=>x=w.heap.size+1) (λu=>ah u (w+1) #[ι ε n,Kz,Kz] 93) ρB (λ_ kx=>kx) ?_;rintro u Ru ku;clear cQ fQ zQ cO fO zO cR fR zR;have cR:=Ru.cell;refine qO (v:=χ #[φ #[ι ε n,Kz,Kz],ζ ao ln co]) σO rfl ?_;refine⟨n,0,0,_,z,λx=>if p1 x=6 then 0 else p1 x,y,[],rfl,rfl,LS,λx hx=>?_,(((H3.ko ku τf)).mono ρa).part (λx _ h1 h5=>qI ρa),?_,λx hx=>?_,λx=>?_,Rm,UT,Kk.trans ku (λx hx e=>ax e ρa),rfl,(⟨λh=>ax h hn,λh=>ax h hbad⟩:AW rl n y z y)⟩
   ·have e:=q1 x hx;have:=h6 x hx;show (if _ then _ else _)=_;rw[qI τ9,e]
   ·exact ae.ko G9 ku σl
   ·show (if _ then _ else _)=_;rw[qP (Rb x hx)]
   ·show (if _ then _ else _)≠_;split;omega;assumption
theorem pD (T Lm:Int)(L:List CD):(f7 T Lm L).pks=0:=by
 unfold SS.pks;have:∀R:List Int,cW (λi=>(((f7 T Lm L).e i).q.length:Int)) R=0:=by
  intro R
  induction R with
  | nil=>rfl
  | cons i r ih=>simp only[cW,ih];rfl
 exact this _
theorem aE.setA {p:Pt} {w w':ϖ} {z:SA} {Ki:Int} {N:Nat} {y:YS} {a':Ad} {o o':aU} {s':SS} (h:aE p w z Ki N y)(ha:a'.S=z.a.S)(ho:∀x,o x≠.no->x<w.heap.size/\p x=5)(k:KO (λx=>(o x).mine) w w')(H':ar o' w' a' s')(e:∀x,x<w.heap.size->o' x=o x)(hT:s'.T=y.s.T)(hp:s'.pks<=y.s.pks):aE (p.more w 5) w' {z with a:=a'} Ki N {y with s:=s'}:=by
 obtain⟨h1,h2,⟨u,b,q,h3,h4⟩,h5,⟨ft,h6,h7⟩,⟨fs,h8,h9⟩,-⟩:=h;have hs:∀x,fs x->x<w.heap.size:=τH;have hf:∀x n,p x=n->n≠5->¬(o x).mine:=λx n e h0 hx=>by have:=(ho x hx).2;omega
 refine⟨?_,(Pt.more_lt h1.size).trans h2,⟨u,b,q,?_,h4.1,?_,h4.2.2⟩,(Pt.more_lt h3.size).trans h5,⟨ft,h6.ko k (λx hx=>hf x 3 (h7 x hx).2 ρa),λx hx=>⟨qB (h7 x hx).1 k.size,(Pt.more_lt (h7 x hx).1).trans (h7 x hx).2⟩⟩,⟨fs,h8.ko k (λx hx=>hf x 4 (h9 x hx) ρa),λx hx=>(Pt.more_lt (hs x hx)).trans (h9 x hx)⟩,_,H'.own (o':=λx=>if x<w'.heap.size then o' x else .no) (λx hx=>qP hx),λx hx=>?_⟩
 ·have:=h1.ko k (hf _ 1 h2 ρa);show ah w' z.Y #[pt a'.S,pt z.K,pt z.B,pt z.S,_,_] _;rw[ha];exact this
 ·show ah w' z.K (Gf u b q s'.T y.til) _;rw[hT];exact h3.ko k (hf _ 2 h5 ρa)
 ·have:=h4.2.1;show u+s'.pks<=_;omega
 ·by_cases hw:x<w'
  ·refine⟨hw,?_⟩;rw[qP hw] at hx;by_cases ML:x<w
   ·rw[Pt.more_lt ML];exact(ho x (by rw[<- e x ML];exact hx)).2
   ·exact Pt.more_ge ρa
  ·rw[qI hw] at hx;exact ax rfl hx
theorem Jv (p:Pt)(z:SA)(Ki:Int)(N:Nat)(Yj Lm:Int)(cv rv:ϗ)(pk:PK)(tk:Int)(L2:List CD)(Pn9:Int->Prop)(w:ϖ)(H:aE p w z Ki N ⟨f7 Yj Lm [],0,0,[]⟩)(h6:∀x,x<w.heap.size->p x≠6)(XN:0<=Ki/\Ki<=100000)(RR:∃a n c,cv=ζ a n c)
  (hA:∀w1,KO (λx=>p x≠0) w w1->aF w1 z.a.T z.a.M []->Calls Ψ 76 #[z.a.T,ι ε Yj,cv] w1 λe w'=>∃u i n,e=ϰ (χ #[u,ι ε i,ι ε n])/\Pn9 n/\(n=0->∃T' M',u=ψ (some ⟨T',0,none⟩)/\w1.heap.size<=T'/\w1.heap.size<=M'/\aF w' T' M' L2)/\Below w1 w1 w')
  (Nx:L2.length<=900) (LY:∀c ∈ L2,c.lf=true->(1<=c.pk/\c.pk<=64)/\(1<=c.by_/\c.by_<=1048576)) (hz:fc L2 0=none):Calls Ψ 30 #[pt z.Y,φ #[Ko,cv,rv,pk.id,ι ε pk.len,ι ω pk.h0,ι ω pk.h1,ι ω pk.h2,ι ω pk.h3,tk]] w λe w'=>∃n i v z' p' s',e=ϰ (χ #[φ #[ι ε n,ι ε i,Kz],v])/\z'.Y=z.Y/\((n≠0/\Pn9 n/\s'=f7 Yj Lm [])\/(n=0/\Pn9 0/\s'=f7 Yj Lm L2))/\(∀x,x<w.heap.size->p' x=p x)/\aE p' w' z' (Ki+1) N ⟨s',0,0,[]⟩/\cG w' w v []/\(∀x,some x=v.ownBlock->p' x=0)/\(∀x,p' x≠6)/\KO (λx=>p x≠0) w w':=by
 obtain⟨ca,cn,cc,rfl⟩:=RR;obtain⟨y,hy⟩:∃y:YS,y=⟨f7 Yj Lm [],0,0,[]⟩:=⟨_,rfl⟩;rw[<- hy] at H;have No:y.clk=0:=by rw[hy]
 have htil:y.til=0:=by rw[hy]
 have KR:y.s=f7 Yj Lm []:=by rw[hy]
 go_in;have Y0:ah w z.Y #[pt z.a.S,pt z.K,pt z.B,pt z.S,y.clk,ι ε Ki] 129:=H.1;have Rr:=Y0.r;go_upto_region 4 with (fail);refine iq w (λ_=>False) (λv=>v.heap.size=w.heap.size+3/\ah v w #[Ko,ζ ca cn cc,rv,pk.id,ι ε pk.len,ι ω pk.h0,ι ω pk.h1,ι ω pk.h2,ι ω pk.h3,tk] 80/\ah v (w+1) #[Kz,Kz,Kz] 93/\ah v (w+2) #[Kn] 33/\ah v z.Y #[pt z.a.S,pt z.K,pt z.B,pt z.S,y.clk,ι ε Ki] 129) ⟨by first|rfl|(simp;done),ρB,ρB,ρB,ρB⟩ (λ_ kx=>kx) ?_;rintro va ⟨za,X0,R0,O0,Y1⟩ ka;replace za:=ag za;have Ss:=Y1.r;have zX:=X0.size;have zR:=R0.size;have zO:=O0.size;go_upto_region 6 with (fail);refine iq va (λ_=>False) (λv=>v.heap.size=va.heap.size+1/\ah v w #[Ko,ζ ca cn cc,rv,pk.id,ι ε pk.len,ι ω pk.h0,ι ω pk.h1,ι ω pk.h2,ι ω pk.h3,tk] 80/\ah v (w+1) #[Kz,Kz,Kz] 93/\ah v (w+2) #[Kn] 33/\ah v z.Y #[pt z.a.S,pt z.K,pt z.B,pt z.S,y.clk,ι ε Ki] 129/\ah v va #[ι ε Ki] 3) ⟨by first|rfl|(simp;done),ρB,ρB,ρB,ρB,ρB⟩ (λ_ kx=>kx) ?_;rintro vb ⟨zb,X1,R1,O1,Y2,P1⟩ kb;replace zb:=ag zb;clear zX zR zO X0 R0 O0 Y1;replace Ss:=Y2.r;have zX:=X1.size;have zR:=R1.size;have zO:=O1.size;have zP:=P1.size;have cX:=X1.cell;have fX:=X1.frozen;have hY0:z.Y<w:=Y0.size;have nYX:w≠z.Y:=ρa;have nYP:z.Y≠va:=by rw[za.out];omega
 go_upto_region 9 with (fail);refine iq vb (λx=>x=z.Y) (λv=>v.heap.size=vb.heap.size+1/\ah v w #[Ko,ζ ca cn cc,rv,pk.id,ι ε pk.len,ι ω pk.h0,ι ω pk.h1,ι ω pk.h2,ι ω pk.h3,tk] 80/\ah v (w+1) #[Kz,Kz,Kz] 93/\ah v (w+2) #[Kn] 33/\ah v va #[ι ε Ki] 3/\ah v vb #[Ko,Kz,Kz] 93/\ah v z.Y #[pt z.a.S,pt z.K,pt z.B,pt z.S,y.clk,ι ε (Ki+1)] 129) ⟨by first|rfl|(simp;done),ρB,ρB,ρB,ρB,ρB,ρB⟩ (λ_ kx=>kx) ?_;rintro v1 ⟨z1,X2,R2,O2,P2,Q2,Y3⟩ kc;replace kc:=((ka.trans kb (λ_ _ f=>f)).mono (G:=λx=>x=z.Y) (λ_ _ f=>f.elim)).trans kc (λ_ _ e=>e);clear zX zR zO zP X1 R1 O1 Y2 P1 ka kb cX fX;have za:=za.out;have zb:=zb.out;rw[zb,za] at z1;rw[za] at P2;obtain⟨Pn,Qr⟩:=Nq va.heap.size;obtain⟨Qn,To⟩:=Nq vb.heap.size;rw[To] at Q2 zb ⊢;rw[Qr] at za zb ⊢;rw[<- za] at P2;rw[show w.heap.size+1+1=w.heap.size+2 from rfl];obtain⟨On,Qq⟩:=Nq (w.heap.size+2);rw[Qq] at O2 ⊢;have XJ:=ag Qq.symm;have Ph:=ag za;have XI:=ag zb;clear Qr To;have WM:=H.2.1;obtain⟨p1,Lz⟩:∃f:Pt,f=(λx=>if x<w.heap.size then p x else if x=On then 6 else 0):=⟨_,rfl⟩;have q1:∀x,x<w.heap.size->p1 x=p x:=λx hx=>by rw[Lz];exact qP hx
 have r1:∀x,w.heap.size<=x->x≠On->p1 x=0:=λx hx hn=>by rw[Lz];show (if _ then _ else _)=_;rw[qI ρa,qI hn]
 have o1:p1 On=6:=σt;clear Lz;have H1:aE p1 v1 z (Ki+1) N y:=(H.part (λx hx _ _=>q1 x hx)).setClk kc Y3;have E1:cu p1 v1 On w []:=⟨_,O2,ae.nil _ _,o1,λx hx=>by cases hx⟩;have I':KO (λx=>p x≠0) w v1:=kc.mono τv;have b1:w.heap.size<=v1:=ρa;have pP1:=r1 Pn ρa ρa;have Wl:=r1 Qn ρa ρa;have SP:=r1 (w+1) ρa ρa;clear Y0 kc WM;replace z1:=ag z1;clear za zb Qq;have cX:=X2.cell;have fX:=X2.frozen;have zX:=X2.size;have rQ:=Q2.r;replace Ss:=Y3.r;rw[No] at Y3;have z1':=z1.out;have zz1:=Ph.out;have ZA:=XI.out;have zz3:=XJ.out;have Rx:w+1≠Qn:=ρa;have gQ:w<=Qn:=ρa;have zO1:On<v1:=O2.size;clear z1' zz1 ZA zz3;obtain⟨o,HS,ho⟩:=H1.sched;rw[KR] at HS;obtain⟨ku,kb,kq,HK,-⟩:=H1.2.2.1;rw[KR,htil] at HK;have zR2:=R2.size;have Tu:decide ((0:Int)<=0)=true:=rfl;clear cX fX zX;have cX:=X2.cell;have fX:=X2.frozen;have zX:=X2.size;replace Ss:=Y3.r;go_upto_region 10 with (fail);go_region_held_law (λw'=>(∀j,w'.cell? ⟨z.Y,j,none⟩=#[pt z.a.S,pt z.K,pt z.B,pt z.S,ι υ 0,ι ε (Ki+1)][j]?)/\(∀j,w'.cell? ⟨w,j,none⟩=#[ι ε 1,ζ ca cn cc,rv,ι υ pk.id,ι ε pk.len,ι ω pk.h0,ι ω pk.h1,ι ω pk.h2,ι ω pk.h3,ι υ tk][j]?)) (first|(with_reducible exact⟨ah.cell Y4,ah.cell X4⟩)|go_keep|exact⟨ah.cell (ah.drew Y3),ah.cell (ah.drew X2)⟩) ((first|(go_at_call 54;refine(yr z.K ku kb kq _ 0 _ (ah.drew HK) 0 true Tu).mono ?_;rintro e u ⟨rfl,rfl⟩)|(go_at_call 53;refine(xW o z.a Yj Lm true (ζ ca cn cc) L2 Pn9 _ (HS.below ρE) (λw1 Uj=>hA w1 ((I'.step0 ρE).step0 Uj) ((aF.below HS.2.1 ρE).below Uj)) Nx LY hz).mono ?_;rintro e v2 ⟨i,n,rfl,K8⟩;have MZ:KO (λx=>(o x).mine) v1 v2:=(by rcases K8 with ⟨_,_,_,kx⟩|⟨_,_,_,_,_,_,_,kx⟩;exact(KO.of_below ρE).trans (KO.of_below kx) (λ_ _ h=>h);exact(KO.of_below ρE).trans kx (λ_ _ h=>h));have Y4:ah v2 z.Y #[pt z.a.S,pt z.K,pt z.B,pt z.S,Ky,ι ε (Ki+1)] 129:=Y3.ko MZ (λh=>by have:=(ho _ h).2;have:=H1.2.1;omega);have X4:=X2.ko MZ (λh=>by have:=(ho _ h).2;have:=r1 w ρa (by rw[XJ.out];omega);omega))));obtain⟨s',a',o',YM,P9,HS',eo⟩:∃s' a' o',((n≠0/\Pn9 n/\s'=f7 Yj Lm [])\/(n=0/\Pn9 0/\s'=f7 Yj Lm L2))/\a'.S=z.a.S/\ar o' v2 a' s'/\∀x,x<v1.heap.size->o' x=o x:=by
  rcases K8 with ⟨g1,g2,g3,_⟩|⟨g1,g2,o',a',g3,g4,g5,_⟩
  ·exact⟨_,z.a,o,.inl ⟨g1,g2.resolve_right (λg=>by cases g.2),rfl⟩,rfl,g3,λ_ _=>rfl⟩
  ·exact⟨_,a',o',.inr ⟨g1,g2,rfl⟩,g3,g4,g5⟩
 clear K8;have hs9:s'.T=y.s.T/\s'.pks<=y.s.pks:=by rw[KR];rcases YM with ⟨_,_,rfl⟩|⟨_,_,rfl⟩<;>exact⟨rfl,by simp only[pD];exact qJ _⟩
 have H2:=H1.setA P9 ho MZ HS' eo hs9.1 hs9.2;have E2:=(E1.more v1 5 (qR _)).ko MZ σQ;have R3:=R2.ko MZ (λh=>by have:=(ho _ h).2;omega);have Q3:=Q2.ko MZ (λh=>by have:=(ho _ h).2;omega);obtain⟨p2,PN⟩:=Nq (p1.more v1 5);rw[PN] at H2 E2;have Pr:∀x,x<v1.heap.size->p2 x=p1 x:=λx hx=>by rw[<- PN];exact Pt.more_lt hx
 clear PN;have q2:∀x,x<w.heap.size->p2 x=p x:=λx hx=>(Pr x ρa).trans (q1 x hx);have Yg:p2 (w+1)=0:=(Pr _ zR2).trans SP;have pQ2:p2 Qn=0:=(Pr _ rQ.2.2).trans Wl;have pO2:p2 On=6:=(Pr _ zO1).trans o1;have J':KO (λx=>p x≠0) w v2:=I'.trans MZ (λx hx h=>by have:=(ho _ h).2;rw[q1 x hx] at this;omega);clear cX fX zX rQ HS HK H1 E1 R2 Q2 X2 X4 Y3 Y4;have rQ:=Q3.r;have zR3:=R3.size;go_upto_region 21 with (fail);refine iq v2 (λx=>x=Qn) (λu=>ah u Qn #[ι ε n,ι ε i,Kz] 93) ρB (λ_ kx=>kx) ?_;rintro v3 Q4 k3;have H3:=H2.ko k3 τ6;have E3:=E2.ko k3 σp;have R4:=R3.ko k3 Rx;have Kk:=J'.trans k3 (λx hx e=>ax e ρa);clear H2 E2 R3 Q3;obtain⟨ve,O9,G9,Wk,Rb⟩:=E3;have qR:p2 (w+1)=0:=Yg;have qO':p2 On=6:=Wk;have nRO:On≠w+1:=λe=>by rw[e,qR] at qO';cases qO'
 have nRQ:Qn≠w+1:=σU;obtain⟨ao,co,rfl⟩:=ae.slice G9;obtain⟨ln,Om⟩:=Nq (([]:List EV).length);rw[Om] at O9 G9 Rb;clear rQ;have rQ:=Q4.r;have cO:=O9.cell;have fO:=O9.frozen;have zO:=O9.size;have cR:=R4.cell;have fR:=R4.frozen;have zR:=R4.size;go_region
 all_goals
  go_wp2_with fail;refine eR v3 (λx=>x=w.heap.size+1) (λu=>ah u (w+1) #[ι ε n,ι ε i,Kz] 93) ρB (λ_ kx=>kx) ?_;rintro u Ru ku;clear rQ cO fO zO cR fR zR;have cR:=Ru.cell;refine qO (v:=χ #[φ #[ι ε n,ι ε i,Kz],ζ ao ln co]) σO rfl ?_;refine⟨n,i,_,{z with a:=a'},λx=>if p2 x=6 then 0 else p2 x,s',rfl,rfl,YM,λx hx=>?_,(show aE p2 u {z with a:=a'} (Ki+1) N ⟨s',0,0,[]⟩ from by have g:=H3.ko ku τf;rw[htil,No] at g;exact g).part (λx _ h1 h5=>qI ρa),?_,λx hx=>?_,λx=>?_,Kk.trans ku (λx hx e=>ax e ρa)⟩
  ·have e:=q2 x hx;have:=h6 x hx;show (if _ then _ else _)=_;rw[qI τ9,e]
  ·exact ae.ko G9 ku σl
  ·show (if _ then _ else _)=_;rw[qP (Rb x hx)]
  ·show (if _ then _ else _)≠_;split;omega;assumption
theorem Jy (T Lm:Int)(w:ϖ)(hT:1<=T/\T<=65536)(hL:1<=Lm/\Lm<=16384):Calls Ψ 29 #[φ #[ι ε T,ι ε Lm]] w λe w'=>∃z p,e=ϰ (χ #[pt z.Y,Kz])/\aE p w' z 0 0 ⟨f7 T Lm [],0,0,[]⟩/\(∀x,x<w.heap.size->p x=0)/\(∀x,p x≠6)/\Below w w w':=by
 go_in;go_wp2_with fail;refine av w (λv=>Below w w v) (λv=>Below w w v/\ah v w #[ι ε T,ι ε Lm] 23) ρE (λkx=>⟨kx,ρB⟩) ?_;rintro v1 ⟨k1,C1⟩;refine(FZ T Lm v1 hT hL).mono ?_;rintro e v2 ⟨o,a,rfl,HS2,olow,kx⟩;have zC1:=C1.size;have z1:=k1.size;have z2:=kx.size;have C2:=C1.below kx zC1;have k2:Below w w v2:=k1.trans (kx.mono z1);have Rr:=C2.r;have ZG:=HS2.own (o':=λx=>if x<v2.heap.size then o x else .no) (λx hx=>qP hx);obtain⟨o1,PM⟩:∃f:aU,f=(λx=>if x<v2.heap.size then o x else .no):=⟨_,rfl⟩;rw[<- PM] at ZG;have XL:∀x,o1 x≠.no->v1.heap.size<=x/\x<v2.heap.size:=λx hx=>by
  have hx:(if x<v2 then o x else TG.no)≠.no:=by rw[PM] at hx;exact hx
  by_cases g:x<v2
  ·rw[qP g] at hx;exact⟨by by_cases g2:x<v1;exact ax (olow x g2) hx;omega,g⟩
  ·rw[qI g] at hx;exact ax rfl hx
 clear HS2 olow PM kx;go_wp2_with fail;refine(IK T _ hT).mono ?_;rintro e v3 ⟨rfl,kx,K3⟩;have z3:=kx.size;have HS4:=ZG.below kx;have k3:=k2.trans (kx.mono ρa);have zK3:=K3.size;clear C2 ZG kx;go_wp2_with fail;refine(Dk Kn [] 0 _ (aK.nil _) ρp).mono ?_;rintro e v4 ⟨u,n,rfl,kx,h4⟩;obtain⟨rfl,B2,fp,rfl,OD,T4⟩:n=0/\∃B2 fp,u=ψ (some ⟨B2,0,none⟩)/\(∀x,fp x->v3.heap.size<=x)/\bF v4 B2 [] (eQ [] 0 [] []).1 (eQ [] 0 [] []).2 fp:=by
  rcases h4 with ⟨_,g⟩|g
  ·exact ax ⟨by simp,λr hr=>by simp at hr⟩ g
  ·exact g
 have z4:=kx.size;have HS5:=HS4.below kx;have K4:=K3.below kx zK3;have k4:=k3.trans (kx.mono ρa);have XD:∀x,fp x->x<v4.heap.size:=by obtain⟨_,_,_,_,_,_,_,_,_,_,_,_,g⟩:=T4;exact g
 clear HS4 K3 h4 kx;go_wp2_with fail;refine(GU _).mono ?_;rintro e v5 ⟨Sb,fs,rfl,RT,Q5,kx⟩;have z5:=kx.size;obtain⟨HS6,K5,T5⟩:=Mw kx (θ3 HS5 K4 T4);have k5:=k4.trans (kx.mono ρa);have WG:∀x,fs x->x<v5.heap.size:=by obtain⟨_,_,_,_,_,_,_,_,_,_,_,_,_,g⟩:=Q5;exact g
 clear HS5 K4 T4 kx;go_wp2_with fail;refine eu v5 (λu=>Below v5 v5 u) (λu=>Below v5 v5 u/\ah u v5 #[pt a.S,pt v2,pt B2,pt Sb,Ky,Kz] 129) ρE (λkx=>⟨kx,ρB⟩) ?_;rintro v6 ⟨k6,Y6⟩;refine qO (v:=χ #[pt v5,Kz]) (by simp[results,Tryz.results29,go_sem,pt]) rfl ?_;have z6:=k6.size;have zY:=Y6.size;obtain⟨p,hp⟩:∃p:Pt,p=(λx=>if x<w.heap.size\/v6<=x then 0 else if x=v5 then 1 else if x=v2 then 2 else if v4<=x then 4 else if v3<=x then 3 else if x<v2 then 5 else 0):=⟨_,rfl⟩;have hw:w.heap.size<=v1:=ρa;have f1:p v5.heap.size=1:=by rw[hp];show (if _ then _ else _)=_;rw[qI ρa,qP rfl]
 have f2:p v2.heap.size=2:=by rw[hp];show (if _ then _ else _)=_;rw[qI ρa,qI ρa,qP rfl]
 refine⟨⟨v5,v2,B2,Sb,a,([],(eQ [] 0 [] []).1,(eQ [] 0 [] []).2)⟩,p,rfl,⟨Y6,?_,⟨0,0,0,K5.below k6 K5.size,by omega,by rw[pD];omega,by omega,by omega,by omega,by omega⟩,?_,⟨fp,T5.below k6,λx hx=>?_⟩,⟨fs,Q5.below k6,λx hx=>?_⟩,o1,HS6.below k6,λx hx=>?_⟩,λx hx=>?_,λx=>?_,k5.trans (k6.mono ρa)⟩
 ·exact f1
 ·exact f2
 ·have h1:=OD x hx;have h2:=XD x hx;refine⟨by omega,?_⟩;rw[hp];show (if _ then _ else _)=_;rw[qI ρa,qI ρa,qI ρa,qI ρa,qP ρa]
 ·have h1:=RT x hx;have h2:=WG x hx;rw[hp];show (if _ then _ else _)=_;rw[qI ρa,qI ρa,qI ρa,qP ρa]
 ·have h1:=XL x hx;refine⟨by omega,?_⟩;rw[hp];show (if _ then _ else _)=_;rw[qI ρa,qI ρa,qI ρa,qI ρa,qI ρa,qP h1.2]
 ·rw[hp];show (if _ then _ else _)=_;rw[qP (.inl hx)]
 ·rw[hp];show (if _ then _ else _)≠_;repeat (first|omega|split)
structure OI where
 (k:Int)
 (ch:List (Int × CD))
 (rl:List RL)
 (pk:PK)
 (tk:Int)
abbrev EH (x:OI)(cv rv:ϗ):List ϗ:=[ι ε x.k,cv,rv,ι υ x.pk.id,ι ε x.pk.len,ι ω x.pk.h0,ι ω x.pk.h1,ι ω x.pk.h2,ι ω x.pk.h3,ι υ x.tk]
def jp (w:ϖ)(B:Nat)(x:OI)(cs:List ϗ):Prop:=∃cv rv,cs=EH x cv rv/\aK 15 pX w B cv x.ch/\aK 9 qc w B rv x.rl
def iw (w:ϖ)(B:Nat)(v:ϗ)(L:List OI):Prop:=∃a Kt,v=ζ a L.length Kt/\L.length<=maxLen/\B<=w/\∀i x,L[i]?=some x->∃g off cs,a=some ⟨g,off,none⟩/\g<B/\jp w B x cs/\w.rangeAt g (off+i*10) cs
theorem jp.below {w v:ϖ} {B:Nat} {x:OI} {cs:List ϗ} (h:jp w B x cs)(k:Below B w v):jp v B x cs:=by obtain⟨cv,rv,e,h1,h2⟩:=h;exact⟨cv,rv,e,h1.belowK k (qR _),h2.belowK k (qR _)⟩
theorem iw.below {w v:ϖ} {B:Nat} {x:ϗ} {L:List OI} (h:iw w B x L)(k:Below B w v):iw v B x L:=by obtain⟨a,Kt,h1,h2,h3,h4⟩:=h;refine⟨a,Kt,h1,h2,qK h3 k.size,λi x hi=>?_⟩;obtain⟨g,off,cs,e,hg,ho,hr⟩:=h4 i x hi;refine⟨g,off,cs,e,hg,ho.below k,λj u hj=>?_⟩;exact(k.cell (p:=⟨g,off+i*10+j,none⟩) hg).trans (hr j u hj)
def OI.clk (x:OI)(c:Int):Int:=if x.k=4 then (if x.tk<=4611686018427387904 - c then c+x.tk else c) else c
inductive jr (y0:YS):List OI->YS->Prop
 | nil:jr y0 [] y0
 | snoc {l:List OI} {x:OI} {y z:YS}:jr y0 l y->x.k≠1->lD (l.length+1) y z->z.clk=x.clk y.clk->jr y0 (l++[x]) z
theorem jr.ok {y0 y:YS} {l:List OI} (h:jr y0 l y)(h0:y0.Ok):y.Ok/\y.s.L=y0.s.L/\y.s.T=y0.s.T/\y.s.Lm=y0.s.Lm:=by
 induction h with
 | nil=>exact⟨h0,rfl,rfl,rfl⟩
 | snoc _ _ hs _ ih=>obtain⟨g1,_,g2,g3,g4⟩:=hs.ok ih.1;exact⟨g1,g2.trans ih.2.1,g3.trans ih.2.2.1,g4.trans ih.2.2.2⟩
def eS (T Lm:Int)(st:YS->Prop):List OI->YS->Prop
 | [],y=>y=⟨f7 T Lm [],0,0,[]⟩
 | _::l,y=>∃y0,st y0/\jr y0 l y
theorem eS.snoc {T Lm:Int} {st:YS->Prop} {x0 x:OI} {l:List OI} {y z:YS} (h:eS T Lm st (x0::l) y)(hk:x.k≠1)(hs:lD (l.length+1) y z)(hc:z.clk=x.clk y.clk):eS T Lm st ((x0::l)++[x]) z:=by obtain⟨y0,h1,h2⟩:=h;exact⟨y0,h1,h2.snoc hk hs hc⟩
structure OI.fine (x:OI):Prop where
 tk:0<=x.tk/\x.tk<=Ma
 rl:x.rl.length<=1000
open Go.Lib in
theorem jR {α:Type} {e:TypeId} {n:Nat} {enc:α->List ϗ} {st:TypeId} {by_:Nat} {z:ϗ} (hu:Ψ.underlying st=some (.slice e))(Qv:(Ψ.info? e).map (λi=>(i.zero,i.size,i.bytes))=some (some z,n,by_))(hz:z.cells.size=n)(hn:∀x,(enc x).length=n)(h1:∀x,∀u ∈ enc x,u.oneCell'=true)(LQ:0<n)(YK:by_<=1000)
  {w:ϖ} {Ki:Array Oper} {rest:List Oper} {o:Oper} {a:Act} {Q:Exit->Act->ϖ->Prop} (Ns:o.guard=none) (sl x:Operand)
  (ho:o.op=.call {callee:=.builtin .append,args:=#[sl,x],argTypes:=#[st,st]})
  (base B:Nat) (v y:ϗ) (s L:List α) (hs:a.eval sl=v) (hx:a.eval x=y) (h:ae e n enc w base v s) (hR:aK n enc w B y L) (MH:s.length+L.length<=1000000) (NQ:base<=w)
  (hk:∀v' w',ae e n enc w' base v' (s++L)->KO (λx=>some x=v.ownBlock) w w'->(∀x,some x=v'.ownBlock->some x=v.ownBlock\/w.heap.size<=x)->wpList Ψ Ki Q rest (a.put o.dst v') w'):wpList Ψ Ki Q (o::rest) a w:=by
 refine wpList_plain Ns λK hK=>?_;obtain⟨i,hi,q⟩:=Option.map_eq_some_iff.1 Qv;simp only[Prod.mk.injEq] at q;obtain⟨ya,Kt,rfl,hm,hB,SF,MF⟩:=hR;cases ya with
 | none=>
  obtain⟨rfl,rfl⟩:=SF rfl;have hr:(Builtin.append_ #[st,st] o.type #[v,Kn]).run Ψ w=.ok v w:=by
   rcases h.2 with ⟨rfl,_⟩|⟨g,Kt,cur,rfl,hg,hh,hc,hm,K6,ht⟩
   ·simp[Builtin.append_,run_underlying hu,Result.andThen,go_sem,sizeOf,typeInfo,hi]
   ·have:s.length+0<=Kt:=by omega
    simp[Builtin.append_,run_underlying hu,Result.andThen,go_sem,sizeOf,typeInfo,hi,hc]
  unfold Oper.wp execOp;simp only[ho,resolve,invoke,builtin,Sem.run_bind,Sem.run_pure,Result.andThen_ok,List.map_toArray,eJ,List.map_nil,hs,hx,List.length_nil,hr];exact hK _ _ (hk _ _ (by rw[qA];exact h) (KO.refl _ _) (λx hx=>.inl hx))
 | some ad=>
  obtain⟨v',w',hr,h2,h3,_,h5⟩:=run_append_own_at (P:=Ψ) w base st o.type e i z n by_ hu hi q.1 q.2.1 q.2.2 hz LQ v s.length (s.flatMap enc) h ad L.length Kt (L.flatMap enc) (gf hn L) (λj u hj=>by
   have KI:L≠[]:=λe=>by rw[e] at hj;simp at hj
   obtain⟨g,off,e,hg,hA⟩:=MF KI;cases e
   rw[Addr.add_mid];exact AV.flat hn LQ hA j u hj) σI σX κa NQ
  unfold Oper.wp execOp;simp only[ho,resolve,invoke,builtin,Sem.run_bind,Sem.run_pure,Result.andThen_ok,List.map_toArray,eJ,List.map_nil,hs,hx,hr];refine hK _ _ (hk v' w' ?_ ⟨h3.os,h3.tape,h3.output,h3.size,λk hk KI=>h3.block k hk KI⟩ τB);unfold ae;rw[qL,List.flatMap_append];exact h2
theorem fW.len {op:Int} {y z:YS} (hp:fW op y z)(h:y.Ok0):(z.ev.length:Int)+z.s.pks=y.ev.length+y.s.pks:=by
 cases hp with
 | busy _=>rfl
 | idle _ _=>rfl
 | @pick i x c xs p r hb K8 hc hq hu=>obtain⟨_,_,T,_⟩:=h.pick K8 hc hq hu;have:=(T.bys h.num ((gO h.inv.lok).2 ⟨c,hc⟩) hq).2;simp only[qL,mD,List.length_nil];omega
theorem cf.len {op stop:Int} {y z:YS} (hr:cf op stop y z)(h:y.Ok)(hs:stop<=4611686018427387904):(z.ev.length:Int)+z.s.pks=y.ev.length+y.s.pks:=by
 induction hr with
 | done _=>rfl
 | @next y z t hn hp _ ih=>have ha:=h.at_next hs hn;exact(ih (hp.ok ha).1).trans (hp.len ha)
theorem lD.len {op:Int} {y z:YS} (hs:lD op y z)(h:y.Ok):(z.ev.length:Int)+z.s.pks<=y.ev.length+y.s.pks+2:=by
 cases hs with
 | nothing=>omega
 | refused hn e KI=>
  rcases bY h.inv.ec hn e with ⟨_,rfl|⟨rfl,_⟩⟩|⟨g,_⟩
  ·show (y.ev.length:Int)+y.s.pks<=_;omega
  ·show (y.ev.length:Int)+y.s.pks<=_;omega
  ·exact ax g KI
 | @packet i p xs s' z hP e hp=>
  have I:=h.inv.put hP e;have hn:xs.Nodup\/fc y.s.L i=none:=by
   cases hc:fc y.s.L i with
   | none=>exact .inr rfl
   | some c=>exact ηO
  rcases hn with hn|hn
  ·rcases bY h.inv.ec hn e with ⟨g,_⟩|⟨_,c,F⟩
   ·exact ax rfl g
   ·have P:=hP c F.cls.1;refine δd ?_;intro N O;have:=hp.len O;have SH:=(F.bys h.num ((gO h.inv.lok).2 ⟨c,F.cls.1⟩)).2;simp only[qL,mD,List.length_nil] at this;omega
  ·exact ηb
 | adv h0 h1 hr=>have:=hr.len h h1;omega
theorem jr.len {y0 y:YS} {l:List OI} (h:jr y0 l y)(h0:y0.Ok)(he:(y0.ev.length:Int)+y0.s.pks<=0):(y.ev.length:Int)+y.s.pks<=2*l.length:=by
 induction h with
 | nil=>simpa using he
 | snoc hr _ hs _ ih=>have:=hs.len (hr.ok h0).1;rw[qL,mE];omega
def nj (T Lm:Int)(L2:List CD)(Pn:Int->Prop)(y0:YS):Prop:=(∃n,n≠0/\Pn n/\y0=⟨f7 T Lm [],0,0,[]⟩)\/(Pn 0/\y0=⟨f7 T Lm L2,0,0,[]⟩)
structure nF (w:ϖ) (B:Nat) (T:Int) (x0:OI) (L2:List CD) (Pn:Int->Prop):Prop where
 k:x0.k=1
 len:L2.length<=900
 lf:∀c ∈ L2,c.lf=true->(1<=c.pk/\c.pk<=64)/\(1<=c.by_/\c.by_<=1048576)
 nz:fc L2 0=none
 app:∀cv,aK 15 pX w B cv x0.ch->∀Tb Mb w1,Below w w w1->aF w1 Tb Mb []->Calls Ψ 76 #[Tb,ι ε T,cv] w1 λe w'=>∃u i n,e=ϰ (χ #[u,ι ε i,ι ε n])/\Pn n/\(n=0->∃T' M',u=ψ (some ⟨T',0,none⟩)/\w1.heap.size<=T'/\w1.heap.size<=M'/\aF w' T' M' L2)/\Below w1 w1 w'
theorem FD (T Lm:Int)(x0:OI)(r:List OI)(L2:List CD)(Pn:Int->Prop)(w0:ϖ)(B:Nat)(F:nF w0 B T x0 L2 Pn)(K7:∀y0,nj T Lm L2 Pn y0->y0.Ok)(KC:(x0::r).length<=1000)(hr:∀x ∈ r,x.k≠1/\x.fine)
  (dn rest:List OI) (x:OI) (Nr:x0::r=dn++x::rest) (p:Pt) (z:SA) (y:YS) (w:ϖ) (H:aE p w z dn.length (2*dn.length) y) (hR:eS T Lm (nj T Lm L2 Pn) dn y) (h6:∀x,p x≠6) (cs:List ϗ) (VK:jp w0 B x cs) (hO:jp w B x cs) (NT:∀x,x<w0.heap.size->p x=0) (hB:B<=w0) (hw:Below w0 w0 w):Calls Ψ 30 #[pt z.Y,φ cs.toArray] w λe w'=>∃a b c v z' p' y' l',e=ϰ (χ #[φ #[ι ε a,ι ε b,ι ε c],v])/\z'.Y=z.Y/\eS T Lm (nj T Lm L2 Pn) (dn++[x]) y'/\(∀x,x<w.heap.size->p' x=p x)/\aE p' w' z' (dn.length+1) (2*dn.length+2) y'/\cG w' w v l'/\(∀x,some x=v.ownBlock->p' x=0)/\(∀x,p' x≠6)/\y'.ev=y.ev++l'/\KO (λx=>p x≠0) w w':=by
 have Om:dn.length<=1000:=by have:=qG List.length Nr;simp at this KC;omega
 have WI:∀x,x<w.heap.size->p x≠6:=λx _=>h6 x;cases dn with
 | nil=>
  have hx:x0=x:=by simpa using (List.cons.inj Nr).1
  subst hx;have hy:y=⟨f7 T Lm [],0,0,[]⟩:=hR;subst hy;obtain⟨cv,rv,rfl,g1,g2⟩:=VK;obtain⟨a,Kt,RR,_⟩:=g1.slice;have Tv:=F.k;obtain⟨xk,xch,xrl,xpk,xtk⟩:=x0;simp only at Tv;subst Tv;refine δP ?_;rintro e w' ⟨n,i,v,z',p',s',rfl,e1,hc,e2,H',G',e3,e4,k'⟩;refine⟨n,i,0,v,z',p',⟨s',0,0,[]⟩,[],rfl,e1,⟨⟨s',0,0,[]⟩,?_,.nil⟩,e2,H'.mono ρa,G',e3,e4,rfl,k'⟩;exact ηT
 | cons x1 dn=>
  obtain⟨LI,OG⟩:=List.cons.inj Nr;subst LI;obtain⟨hk,hf⟩:=hr x (by rw[OG];simp);have hy:y.Ok:=by obtain⟨y0,h1,h2⟩:=hR;exact(h2.ok (K7 y0 h1)).1
  obtain⟨cv,rv,rfl,g1,g2⟩:=hO;have fin:∀{w':ϖ} {a b c:Int} {v:ϗ} {z':SA} {p':Pt} {y':YS} {l':List EV},z'.Y=z.Y->lD ((dn.length:Int)+1) y y'->(∀x,x<w.heap.size->p' x=p x)->aE p' w' z' (((x0::dn).length:Int)+1) (2*(x0::dn).length+2) y'->cG w' w v l'->(∀x,some x=v.ownBlock->p' x=0)->(∀x,p' x≠6)->y'.ev=y.ev++l'->KO (λx=>p x≠0) w w'->y'.clk=x.clk y.clk->
    ∃a' b' c' v' z' p' y' l',(Ending.returned (χ #[φ #[ι ε a,ι ε b,ι ε c],v])=ϰ (χ #[φ #[ι ε a',ι ε b',ι ε c'],v']))/\z'.Y=z.Y/\eS T Lm (nj T Lm L2 Pn) (x0::dn++[x]) y'/\(∀x,x<w.heap.size->p' x=p x)/\aE p' w' z' (((x0::dn).length:Int)+1) (2*(x0::dn).length+2) y'/\cG w' w v' l'/\(∀x,some x=v'.ownBlock->p' x=0)/\(∀x,p' x≠6)/\y'.ev=y.ev++l'/\KO (λx=>p x≠0) w w':=
   λe1 e2 e3 e4 e5 e6 e7 e8 e9 QM=>⟨_,_,_,_,_,_,_,_,rfl,e1,hR.snoc hk e2 QM,e3,e4,e5,e6,e7,e8,e9⟩
  have RV:0<=((x0::dn).length:Int)/\((x0::dn).length:Int)<=100000:=ρa;have LS:(((x0::dn).length:Nat):Int)=(dn.length:Int)+1:=ρp;by_cases k2:x.k=2
  ·refine(show Calls _ _ _ _ _ from by
    have:=Ig p z _ _ y cv rv x.pk x.tk x.rl B w H hy WI RV ρa g2 hf.rl (λx hx=>NT x ρa);rw[<- k2] at this;exact this).mono ?_
   exact ηI
  by_cases k3:x.k=3
  ·refine(show Calls _ _ _ _ _ from by
    have:=Ih p z _ _ y cv rv x.pk x.tk w H hy WI RV ρa;rw[<- k3] at this;exact this).mono ?_
   exact ηI
  by_cases k4:x.k=4
  ·refine(show Calls _ _ _ _ _ from by
    have:=Ii p z _ _ y cv rv x.pk x.tk w H hy WI RV ρa hf.tk;rw[<- k4] at this;exact this).mono ?_
   rintro e w' ⟨a,b,c,v,z',p',y',l',rfl,e1,e2,e3,e4,e5,e6,e7,e8,_,e9,QM,_⟩;exact fin e1 (LS ▸ e2) e3 e4 e5 e6 e7 e8 e9 (by rw[QM];unfold OI.clk;rw[qP k4])
  ·refine(If p z _ _ y x.k cv rv x.pk x.tk w H hy WI RV ρa ⟨hk,k2,k3,k4⟩).mono ?_;rintro e w' ⟨a,b,c,v,z',p',y',l',rfl,e1,e2,e3,e4,e5,e6,e7,e8,_,e9,QM,_⟩;exact fin e1 (LS ▸ e2) e3 e4 e5 e6 e7 e8 e9 (by rw[QM];unfold OI.clk;rw[qI k4])
end Go.Proofs.YtfdlemkplejdnaaGreat
