/- WholeBehind, part 38. Conditions: none. -/
import Derived.Test.YtfdlemkplejdnaaGreatA35
import Derived.Test.YtfdlemkplejdnaaGreatA36
import Derived.Test.YtfdlemkplejdnaaGreatA37
namespace Go.Proofs.YtfdlemkplejdnaaGreat
open Go.RowKit Go.Sort
open Value renaming int->ι,pointer->ψ,slice->ζ,tuple->χ,agg->φ,map->μ,bool->β
open IntKind renaming u64->υ,i64->ε,u16->ω
open Ending renaming returned->ϰ
open Go.Proofs.Tryz renaming prog->Ψ,underlying3->Θ,underlying147->Δ,underlying152->Γ,underlying202->Φ,underlying39->Ξ,underlying207->Ω
open Go renaming World->ϖ,Value->ϗ
set_option linter.unusedVariables false
set_option linter.unusedSimpArgs false
set_option maxHeartbeats 8000000
set_option maxRecDepth 100000
section
variable {T Lm clk:Int} {c:CD} {L:List EV}
end
def YS.EVs (y:YS):Prop:=∀e ∈ y.ev,(∃c,fc y.s.L e.cls=some c)/\e.done<=4611686019501129728/\e.pk.len<=16384
section
variable {op:Int} {y z:YS}
theorem eX.evs (hp:eX op y z)(h:y.Ok0)(E:y.EVs):z.EVs:=by
 cases hp with
 | busy hb=>exact E
 | idle hb Jq=>exact E
 | @pick i b c xs p r hb Jq hc hq hu=>
  obtain⟨P,hl,T,I,N,hp,ht⟩:=h.pick Jq hc hq hu;have XH:=h.num.lm;have Ts:=h.clk;intro e he;rw[T.L];rcases ZM.1 he with g|g
  ·exact E e g
  ·rw[ZS.1 g];exact⟨⟨c,hc⟩,by show y.clk+y.s.T*p.len<=_;omega,by show p.len<=_;omega⟩
theorem bP.evs {stop:Int} (hr:bP op stop y z)(h:y.Ok)(hs:stop<=4611686018427387904)(h0:y.clk<=stop)(E:y.EVs):z.EVs:=by
 induction hr with
 | @done y hn=>exact E
 | @next y z t hn hp _ ih=>have ha:=h.at_next hs hn;obtain⟨g1,g2,g3,g4,g5⟩:=hp.ok ha;exact ih g1 (by rw[g2];exact hn) (hp.evs ha E)
theorem jX.evs (hs:jX op y z)(h:y.Ok)(E:y.EVs):z.EVs:=by
 cases hs with
 | nothing=>exact E
 | refused hn e IX=>
  rcases cf h.inv.ec hn e with ⟨_,rfl|⟨rfl,_⟩⟩|⟨g,_⟩
  ·exact E
  ·exact E
  ·exact ax g IX
 | @packet i p xs s' z hP e hp=>
  have I:=h.inv.put hP e;have hn:xs.Nodup\/fc y.s.L i=none:=by
   cases hc:fc y.s.L i with
   | none=>exact .inr rfl
   | some c=>exact ηM
  rcases hn with hn|hn
  ·rcases cf h.inv.ec hn e with ⟨g,_⟩|⟨_,c,F⟩
   ·exact ax rfl g
   ·have P:=hP c F.cls.1;refine δn ?_;intro N O;refine hp.evs O λe he=>?_;show (∃c,fc s'.L e.cls=some c)/\_;rw[F.L];rcases ZM.1 he with g|g
    ·exact E e g
    ·rw[ZS.1 g];have:=F.len;have:=h.num.lm;exact⟨⟨c,F.cls.1⟩,by show (0:Int)<=_;omega,by show p.len<=_;omega⟩
  ·exact ηc
 | adv h0 h1 hr=>exact hr.evs h h1 h0 E
theorem kA.evs {y0:YS} {l:List OI} (hr:kA y0 l y)(h0:y0.Ok)(E:y0.EVs):y.EVs:=by
 induction hr with
 | nil=>exact E
 | snoc hr _ hs _ ih=>exact hs.evs (hr.ok h0).1 ih
end
section
open Go.ChangeShapes Go.WideShapes Go.ChangeAt Go.RowKit
theorem rL {α:Type} {l:List α} (h:l.length=2):∃a0 a1,l=[a0,a1]:=by
 match l,h with
 | [a0,a1],_=>exact⟨a0,a1,rfl⟩
theorem iX {α:Type} {l:List α} (h:l.length=3):∃a0 a1 a2,l=[a0,a1,a2]:=by
 match l,h with
 | [a0,a1,a2],_=>exact⟨a0,a1,a2,rfl⟩
theorem rM {α:Type} {l:List α} (h:l.length=8):∃a0 a1 a2 a3 a4 a5 a6 a7,l=[a0,a1,a2,a3,a4,a5,a6,a7]:=by
 match l,h with
 | [a0,a1,a2,a3,a4,a5,a6,a7],_=>exact⟨a0,a1,a2,a3,a4,a5,a6,a7,rfl⟩
theorem pB {α:Type} {l:List α} (h:l.length=15):∃a0 a1 a2 a3 a4 a5 a6 a7 a8 a9 a10 a11 a12 a13 a14,l=[a0,a1,a2,a3,a4,a5,a6,a7,a8,a9,a10,a11,a12,a13,a14]:=by
 match l,h with
 | [a0,a1,a2,a3,a4,a5,a6,a7,a8,a9,a10,a11,a12,a13,a14],_=>exact⟨a0,a1,a2,a3,a4,a5,a6,a7,a8,a9,a10,a11,a12,a13,a14,rfl⟩
theorem pz {H:Type} {w:ϖ} {base:Nat} {Jp:Nat->Bool} {JP:Bool} {enc:TypeId × ϗ->H} {fuel:Nat} {c0 c1 c2 c3 c4 c5 c6 c7 c8 c9 c10 c11 c12 c13 c14:ϗ} {x:DataW H × List MemPlace} (hf:DataW.trod enc Ψ w base Jp JP fuel 86 [c0,c1,c2,c3,c4,c5,c6,c7,c8,c9,c10,c11,c12,c13,c14]=some x):
  ∃(x0:Int) (x1:Int) (x2:Int) (x3:Bool) (x4:Int) (x5:Int) (x6:Int) (x7:Int) (x8:Int) (x9:Int) (x10:Int) (x11:Int) (x12:Int) (x13:Int) (x14:Int),[c0,c1,c2,c3,c4,c5,c6,c7,c8,c9,c10,c11,c12,c13,c14]=[ι ε x0,ι ε x1,ι ε x2,β x3,x4,x5,x6,x7,x8,x9,x10,x11,x12,ι ε x13,ι ε x14]/\(-Mc<=x0/\x0<=Mb)/\(-Mc<=x1/\x1<=Mb)/\(-Mc<=x2/\x2<=Mb)/\(0<=x4/\x4<=Ma)/\(0<=x5/\x5<=Ma)/\(0<=x6/\x6<=Ma)/\(0<=x7/\x7<=Ma)/\(0<=x8/\x8<=Ma)/\(0<=x9/\x9<=Ma)/\(0<=x10/\x10<=Ma)/\(0<=x11/\x11<=Ma)/\(0<=x12/\x12<=Ma)/\(-Mc<=x13/\x13<=Mb)/\(-Mc<=x14/\x14<=Mb):=by
 have k0:Ψ.cellsOf 86=15:=ρh;have k1:Ψ.cellsOf 3=1:=ρh;have k2:Ψ.cellsOf 43=14:=ρh;have k3:Ψ.cellsOf 4=1:=ρh;have k4:Ψ.cellsOf 41=3:=ρh;have k5:Ψ.cellsOf 39=1:=ρh;obtain⟨ys0,m0,_,_,_,Lv,Kx⟩:=DataW.trod_struct Tryz.underlying86 hf;obtain⟨y0_0,y0_1,rfl⟩:=rL Lv;have NJ:=Kx 0 _ rfl;have NK:=Kx 1 _ rfl;simp[k1,k2] at NJ NK;obtain⟨x0,e0,_,w0⟩:=ZY Θ NJ;obtain⟨ys1,m1,_,_,_,St,JT⟩:=DataW.trod_struct Tryz.underlying43 NK;obtain⟨y1_0,y1_1,y1_2,y1_3,y1_4,y1_5,y1_6,y1_7,rfl⟩:=rM St;have NL:=JT 0 _ rfl;have NM:=JT 1 _ rfl;have PS:=JT 2 _ rfl;have UO:=JT 3 _ rfl;have q1_4:=JT 4 _ rfl;have q1_5:=JT 5 _ rfl;have q1_6:=JT 6 _ rfl;have q1_7:=JT 7 _ rfl;simp[k1,k3,k4] at NL NM PS UO q1_4 q1_5 q1_6 q1_7;obtain⟨x1,e1,_,w1⟩:=ZY Θ NL;obtain⟨x2,e2,_,w2⟩:=ZY Θ NM;obtain⟨x3,e3,_⟩:=DataW.trod_bool Tryz.underlying4 PS;obtain⟨ys2,m2,_,_,_,Oj,NS⟩:=DataW.trod_struct Tryz.underlying41 UO;obtain⟨y2_0,y2_1,y2_2,rfl⟩:=iX Oj;have PU:=NS 0 _ rfl;have PV:=NS 1 _ rfl;have PW:=NS 2 _ rfl;simp[k5] at PU PV PW;obtain⟨x4,e4,_,w4⟩:=ZY Ξ PU;obtain⟨x5,e5,_,w5⟩:=ZY Ξ PV;obtain⟨x6,e6,_,w6⟩:=ZY Ξ PW;obtain⟨ys3,m3,_,_,_,hl3,hx3⟩:=DataW.trod_struct Tryz.underlying41 q1_4;obtain⟨y3_0,y3_1,y3_2,rfl⟩:=iX hl3;have q3_0:=hx3 0 _ rfl;have q3_1:=hx3 1 _ rfl;have q3_2:=hx3 2 _ rfl;simp[k5] at q3_0 q3_1 q3_2;obtain⟨x7,e7,_,w7⟩:=ZY Ξ q3_0;obtain⟨x8,e8,_,w8⟩:=ZY Ξ q3_1;obtain⟨x9,e9,_,w9⟩:=ZY Ξ q3_2;obtain⟨ys4,m4,_,_,_,hl4,hx4⟩:=DataW.trod_struct Tryz.underlying41 q1_5;obtain⟨y4_0,y4_1,y4_2,rfl⟩:=iX hl4;have q4_0:=hx4 0 _ rfl;have q4_1:=hx4 1 _ rfl;have q4_2:=hx4 2 _ rfl;simp[k5] at q4_0 q4_1 q4_2;obtain⟨x10,Ph,_,w10⟩:=ZY Ξ q4_0;obtain⟨x11,e11,_,w11⟩:=ZY Ξ q4_1;obtain⟨x12,e12,_,w12⟩:=ZY Ξ q4_2;obtain⟨x13,e13,_,w13⟩:=ZY Θ q1_6;obtain⟨x14,e14,_,w14⟩:=ZY Θ q1_7;simp at e0 e1 e2 e3 e4 e5 e6 e7 e8 e9 Ph e11 e12 e13 e14;subst e0 e1 e2 e3 e4 e5 e6 e7 e8 e9 Ph e11 e12 e13 e14;exact⟨x0,x1,x2,x3,x4,x5,x6,x7,x8,x9,x10,x11,x12,x13,x14,rfl,bounds_i64 w0,bounds_i64 w1,bounds_i64 w2,bounds_u64 w4,bounds_u64 w5,bounds_u64 w6,bounds_u64 w7,bounds_u64 w8,bounds_u64 w9,bounds_u64 w10,bounds_u64 w11,bounds_u64 w12,bounds_i64 w13,bounds_i64 w14⟩
theorem vy {α:Type} {l:List α} (h:l.length=3):∃a0 a1 a2,l=[a0,a1,a2]:=by
 match l,h with
 | [a0,a1,a2],_=>exact⟨a0,a1,a2,rfl⟩
theorem nl {α:Type} {l:List α} (h:l.length=4):∃a0 a1 a2 a3,l=[a0,a1,a2,a3]:=by
 match l,h with
 | [a0,a1,a2,a3],_=>exact⟨a0,a1,a2,a3,rfl⟩
theorem vz {α:Type} {l:List α} (h:l.length=9):∃a0 a1 a2 a3 a4 a5 a6 a7 a8,l=[a0,a1,a2,a3,a4,a5,a6,a7,a8]:=by
 match l,h with
 | [a0,a1,a2,a3,a4,a5,a6,a7,a8],_=>exact⟨a0,a1,a2,a3,a4,a5,a6,a7,a8,rfl⟩
theorem rJ {H:Type} {w:ϖ} {base:Nat} {Jp:Nat->Bool} {JP:Bool} {enc:TypeId × ϗ->H} {fuel:Nat} {c0 c1 c2 c3 c4 c5 c6 c7 c8:ϗ} {x:DataW H × List MemPlace} (hf:DataW.trod enc Ψ w base Jp JP fuel 88 [c0,c1,c2,c3,c4,c5,c6,c7,c8]=some x):
  ∃(x0:Int) (x1:Int) (x2:Int) (x3:Int) (x4:Int) (x5:Int) (x6:Int) (x7:Int) (x8:Int),[c0,c1,c2,c3,c4,c5,c6,c7,c8]=[ι ω x0,ι ω x1,ι ω x2,ι ω x3,ι ω x4,ι ω x5,ι ω x6,ι ω x7,ι ε x8]/\(0<=x0/\x0<=65535)/\(0<=x1/\x1<=65535)/\(0<=x2/\x2<=65535)/\(0<=x3/\x3<=65535)/\(0<=x4/\x4<=65535)/\(0<=x5/\x5<=65535)/\(0<=x6/\x6<=65535)/\(0<=x7/\x7<=65535)/\(-Mc<=x8/\x8<=Mb):=by
 have k0:Ψ.cellsOf 88=9:=ρh;have k1:Ψ.cellsOf 48=4:=ρh;have k2:Ψ.cellsOf 46=1:=ρh;have k3:Ψ.cellsOf 3=1:=ρh;obtain⟨ys0,m0,_,_,_,Lv,Kx⟩:=DataW.trod_struct Tryz.underlying88 hf;obtain⟨y0_0,y0_1,y0_2,rfl⟩:=vy Lv;have NJ:=Kx 0 _ rfl;have NK:=Kx 1 _ rfl;have UN:=Kx 2 _ rfl;simp[k1,k3] at NJ NK UN;obtain⟨ys1,m1,_,_,_,St,JT⟩:=DataW.trod_array Tryz.underlying48 NJ;obtain⟨y1_0,y1_1,y1_2,y1_3,rfl⟩:=nl St;have NL:=JT 0 ρp;have NM:=JT 1 ρp;have PS:=JT 2 ρp;have UO:=JT 3 ρp;simp[k2] at NL NM PS UO;obtain⟨x0,e0,_,w0⟩:=ZY Tryz.underlying46 NL;obtain⟨x1,e1,_,w1⟩:=ZY Tryz.underlying46 NM;obtain⟨x2,e2,_,w2⟩:=ZY Tryz.underlying46 PS;obtain⟨x3,e3,_,w3⟩:=ZY Tryz.underlying46 UO;obtain⟨ys2,m2,_,_,_,Oj,NS⟩:=DataW.trod_array Tryz.underlying48 NK;obtain⟨y2_0,y2_1,y2_2,y2_3,rfl⟩:=nl Oj;have PU:=NS 0 ρp;have PV:=NS 1 ρp;have PW:=NS 2 ρp;have UP:=NS 3 ρp;simp[k2] at PU PV PW UP;obtain⟨x4,e4,_,w4⟩:=ZY Tryz.underlying46 PU;obtain⟨x5,e5,_,w5⟩:=ZY Tryz.underlying46 PV;obtain⟨x6,e6,_,w6⟩:=ZY Tryz.underlying46 PW;obtain⟨x7,e7,_,w7⟩:=ZY Tryz.underlying46 UP;obtain⟨x8,e8,_,w8⟩:=ZY Θ UN;simp at e0 e1 e2 e3 e4 e5 e6 e7 e8;subst e0 e1 e2 e3 e4 e5 e6 e7 e8;exact⟨x0,x1,x2,x3,x4,x5,x6,x7,x8,rfl,bounds_u16 w0,bounds_u16 w1,bounds_u16 w2,bounds_u16 w3,bounds_u16 w4,bounds_u16 w5,bounds_u16 w6,bounds_u16 w7,bounds_i64 w8⟩
theorem vg {α:Type} {l:List α} (h:l.length=3):∃a0 a1 a2,l=[a0,a1,a2]:=by
 match l,h with
 | [a0,a1,a2],_=>exact⟨a0,a1,a2,rfl⟩
theorem vh {α:Type} {l:List α} (h:l.length=4):∃a0 a1 a2 a3,l=[a0,a1,a2,a3]:=by
 match l,h with
 | [a0,a1,a2,a3],_=>exact⟨a0,a1,a2,a3,rfl⟩
theorem vi {α:Type} {l:List α} (h:l.length=5):∃a0 a1 a2 a3 a4,l=[a0,a1,a2,a3,a4]:=by
 match l,h with
 | [a0,a1,a2,a3,a4],_=>exact⟨a0,a1,a2,a3,a4,rfl⟩
theorem sE {α:Type} {l:List α} (h:l.length=10):∃a0 a1 a2 a3 a4 a5 a6 a7 a8 a9,l=[a0,a1,a2,a3,a4,a5,a6,a7,a8,a9]:=by
 match l,h with
 | [a0,a1,a2,a3,a4,a5,a6,a7,a8,a9],_=>exact⟨a0,a1,a2,a3,a4,a5,a6,a7,a8,a9,rfl⟩
theorem rI {H:Type} {w:ϖ} {base:Nat} {Jp:Nat->Bool} {JP:Bool} {enc:TypeId × ϗ->H} {fuel:Nat} {c0 c1 c2 c3 c4 c5 c6 c7 c8 c9:ϗ} {x:DataW H × List MemPlace} (hf:DataW.trod enc Ψ w base Jp JP fuel 80 [c0,c1,c2,c3,c4,c5,c6,c7,c8,c9]=some x):
  ∃(x0:Int) (x3:Int) (x4:Int) (x5:Int) (x6:Int) (x7:Int) (x8:Int) (x9:Int),[c0,c1,c2,c3,c4,c5,c6,c7,c8,c9]=[ι ε x0,c1,c2,x3,ι ε x4,ι ω x5,ι ω x6,ι ω x7,ι ω x8,x9]/\(-Mc<=x0/\x0<=Mb)/\(0<=x3/\x3<=Ma)/\(-Mc<=x4/\x4<=Mb)/\(0<=x5/\x5<=65535)/\(0<=x6/\x6<=65535)/\(0<=x7/\x7<=65535)/\(0<=x8/\x8<=65535)/\(0<=x9/\x9<=Ma)/\(∃f y,DataW.trod enc Ψ w base Jp JP f 77 [c1]=some y)/\(∃f y,DataW.trod enc Ψ w base Jp JP f 78 [c2]=some y):=by
 have k0:Ψ.cellsOf 80=10:=ρh;have k1:Ψ.cellsOf 3=1:=ρh;have k2:Ψ.cellsOf 77=1:=ρh;have k3:Ψ.cellsOf 78=1:=ρh;have k4:Ψ.cellsOf 50=6:=ρh;have k5:Ψ.cellsOf 39=1:=ρh;have k6:Ψ.cellsOf 48=4:=ρh;have k7:Ψ.cellsOf 46=1:=ρh;obtain⟨ys0,m0,_,_,_,Lv,Kx⟩:=DataW.trod_struct Tryz.underlying80 hf;obtain⟨y0_0,y0_1,y0_2,y0_3,y0_4,rfl⟩:=vi Lv;have NJ:=Kx 0 _ rfl;have NK:=Kx 1 _ rfl;have UN:=Kx 2 _ rfl;have q0_3:=Kx 3 _ rfl;have q0_4:=Kx 4 _ rfl;simp[k1,k2,k3,k4,k5] at NJ NK UN q0_3 q0_4;obtain⟨x0,e0,_,w0⟩:=ZY Θ NJ;have s1:=NK;have s2:=UN;obtain⟨ys1,m1,_,_,_,St,JT⟩:=DataW.trod_struct Tryz.underlying50 q0_3;obtain⟨y1_0,y1_1,y1_2,rfl⟩:=vg St;have NL:=JT 0 _ rfl;have NM:=JT 1 _ rfl;have PS:=JT 2 _ rfl;simp[k1,k5,k6] at NL NM PS;obtain⟨x3,e3,_,w3⟩:=ZY Ξ NL;obtain⟨x4,e4,_,w4⟩:=ZY Θ NM;obtain⟨ys2,m2,_,_,_,Oj,NS⟩:=DataW.trod_array Tryz.underlying48 PS;obtain⟨y2_0,y2_1,y2_2,y2_3,rfl⟩:=vh Oj;have PU:=NS 0 ρp;have PV:=NS 1 ρp;have PW:=NS 2 ρp;have UP:=NS 3 ρp;simp[k7] at PU PV PW UP;obtain⟨x5,e5,_,w5⟩:=ZY Tryz.underlying46 PU;obtain⟨x6,e6,_,w6⟩:=ZY Tryz.underlying46 PV;obtain⟨x7,e7,_,w7⟩:=ZY Tryz.underlying46 PW;obtain⟨x8,e8,_,w8⟩:=ZY Tryz.underlying46 UP;obtain⟨x9,e9,_,w9⟩:=ZY Ξ q0_4;simp at e0 e3 e4 e5 e6 e7 e8 e9;subst e0 e3 e4 e5 e6 e7 e8 e9;exact⟨x0,x3,x4,x5,x6,x7,x8,x9,rfl,bounds_i64 w0,bounds_u64 w3,bounds_i64 w4,bounds_u16 w5,bounds_u16 w6,bounds_u16 w7,bounds_u16 w8,bounds_u64 w9,⟨_,_,s1⟩,⟨_,_,s2⟩⟩
theorem ns {α:Type} {l:List α} (h:l.length=2):∃a0 a1,l=[a0,a1]:=by
 match l,h with
 | [a0,a1],_=>exact⟨a0,a1,rfl⟩
theorem vC {α:Type} {l:List α} (h:l.length=3):∃a0 a1 a2,l=[a0,a1,a2]:=by
 match l,h with
 | [a0,a1,a2],_=>exact⟨a0,a1,a2,rfl⟩
theorem rK {H:Type} {w:ϖ} {base:Nat} {Jp:Nat->Bool} {JP:Bool} {enc:TypeId × ϗ->H} {fuel:Nat} {c0 c1 c2:ϗ} {x:DataW H × List MemPlace} (hf:DataW.trod enc Ψ w base Jp JP fuel 26 [c0,c1,c2]=some x):
  ∃(x0:Int) (x1:Int),[c0,c1,c2]=[ι ε x0,ι ε x1,c2]/\(-Mc<=x0/\x0<=Mb)/\(-Mc<=x1/\x1<=Mb)/\(∃f y,DataW.trod enc Ψ w base Jp JP f 24 [c2]=some y):=by
 have k0:Ψ.cellsOf 26=3:=ρh;have k1:Ψ.cellsOf 23=2:=ρh;have k2:Ψ.cellsOf 3=1:=ρh;have k3:Ψ.cellsOf 24=1:=ρh;obtain⟨ys0,m0,_,_,_,Lv,Kx⟩:=DataW.trod_struct Tryz.underlying26 hf;obtain⟨y0_0,y0_1,rfl⟩:=ns Lv;have NJ:=Kx 0 _ rfl;have NK:=Kx 1 _ rfl;simp[k1,k3] at NJ NK;obtain⟨ys1,m1,_,_,_,St,JT⟩:=DataW.trod_struct Tryz.underlying23 NJ;obtain⟨y1_0,y1_1,rfl⟩:=ns St;have NL:=JT 0 _ rfl;have NM:=JT 1 _ rfl;simp[k2] at NL NM;obtain⟨x0,e0,_,w0⟩:=ZY Θ NL;obtain⟨x1,e1,_,w1⟩:=ZY Θ NM;have s2:=NK;simp at e0 e1;subst e0 e1;exact⟨x0,x1,rfl,bounds_i64 w0,bounds_i64 w1,⟨_,_,s2⟩⟩
theorem tU {α:Type} {P:Nat->α->Prop}:∀n:Nat,(∀i,i<n->∃a,P i a)->∃L:List α,L.length=n/\∀i a,L[i]?=some a->P i a
 | 0,_=>⟨[],rfl,λi a h=>by simp at h⟩
 | n+1,h=>by
  obtain⟨L,h1,h2⟩:=tU n (λi hi=>h i ρa);obtain⟨a,ha⟩:=h n ρa;refine⟨L++[a],by simp[h1],λi b hb=>?_⟩;by_cases g:i<n
  ·rw[List.getElem?_append_left ρa] at hb;exact h2 i b hb
  ·rw[List.getElem?_append_right ρa] at hb;have:i - L.length=0:=by
    apply vW;intro g2;obtain⟨k,hk⟩:∃k,i - L.length=k+1:=⟨i - L.length - 1,by omega⟩;rw[hk] at hb;simp at hb
   rw[this] at hb;simp at hb;have:i=n:=ρa;subst this;rw[<- hb];exact ha
theorem na {α:Type} (R:α->List ϗ->Prop) {n:Nat} {Zt sty:TypeId} {H:Type} {w:ϖ} {base:Nat} {Jp:Nat->Bool} {JP:Bool} {enc:TypeId × ϗ->H} {fuel:Nat} {v:ϗ} {x:DataW H × List MemPlace} (hu:Ψ.underlying sty=some (.slice Zt))(hN:Ψ.cellsOf Zt=n)(Kv:0<n)
  (hel:∀fuel cs x,DataW.trod enc Ψ w base Jp JP fuel Zt cs=some x->cs.length=n->∃a,R a cs) (h:DataW.trod enc Ψ w base Jp JP fuel sty [v]=some x):
  ∃(s:Option Addr) (IM:Nat) (L:List α),v=ζ s L.length IM/\L.length<=maxLen/\(s=none->IM=0/\L=[])/\(L≠[]->∃g II,s=some ⟨g,II,none⟩/\g<w.heap.size/\∀i a,L[i]?=some a->∃cs,R a cs/\w.rangeAt g (II+i*n) cs):=by
 rcases Go.Deep.open_slice hu h with ⟨KD,_⟩|⟨a,len',QJ,m,n',D,Pl,KD,hb,hl,hm,PG,hx,hi⟩
 ·simp at KD;exact⟨none,0,[],KD,by simp,λ_=>⟨rfl,rfl⟩,λg=>ax rfl g⟩
 ·simp at KD;have hlm:len'<=m:=by rw[PG];split<;>omega
  rw[hN] at hi;have Jg:∀i,i<len'->∃y:α,∃cs,R y cs/\cs.length=n/\∀j,j<n->w.cell? ((a.add (i*n)).add j)=cs[j]?:=by intro i hil;obtain⟨cs',hc,ht⟩:=hi i ρa;obtain⟨_,IS,Lq⟩:=World.cells?_some hc;obtain⟨y,hy⟩:=hel _ _ _ ht IS;exact⟨y,cs',hy,IS,Lq⟩
  obtain⟨L,hL,hP⟩:=tU len' Jg;refine⟨some a,QJ,L,by rw[hL];exact KD,by omega,λe=>(by cases e),λIX=>?_⟩;have h0:0<len':=by rw[<- hL];exact List.length_pos_iff.2 IX
  obtain⟨b,II,spot⟩:=a;have first:∃u,w.cell? ⟨b,II,spot⟩=some u:=by obtain⟨y,cs,_,Oj,Lq⟩:=Jg 0 h0;have:=Lq 0 Kv;rw[Nat.zero_mul] at this;exact⟨cs[0]'ρa,by simpa [Addr.add,List.getElem?_eq_getElem (show 0<cs.length by omega)] using this⟩
  obtain⟨u,Yj⟩:=first;have hspot:spot=none:=World.cell?_spot Yj;subst hspot;refine⟨b,II,rfl,?_,λi y hy=>?_⟩
  ·by_cases hb:b<w
   ·exact hb
   ·simp[World.cell?,Array.getElem?_eq_none (show w.heap.size<=b by omega)] at Yj
  ·obtain⟨cs,h1,h2,h3⟩:=hP i y hy;refine⟨cs,h1,λj z hj=>?_⟩;have hjn:j<n:=by rw[<- h2];exact(List.getElem?_eq_some_iff.1 hj).1
   have h4:=h3 j hjn;rw[hj] at h4;rw[Go.Deep.add_add] at h4;unfold Addr.add at h4;by_cases g0:i*n+j=0
   ·rw[ZP g0] at h4;rw[show II+i*n+j=II by omega];exact h4
   ·rw[ZI g0] at h4;rw[show II+i*n+j=II+(i*n+j) by omega];exact h4
theorem tX {α:Type} {enc2:α->List ϗ} (P:α->Prop) {n:Nat} {Zt sty:TypeId} {H:Type} {w:ϖ} {base:Nat} {Jp:Nat->Bool} {JP:Bool} {enc:TypeId × ϗ->H} {fuel:Nat} {v:ϗ} {x:DataW H × List MemPlace} (hu:Ψ.underlying sty=some (.slice Zt))(hN:Ψ.cellsOf Zt=n)(Kv:0<n)
  (hel:∀fuel cs x,DataW.trod enc Ψ w base Jp JP fuel Zt cs=some x->cs.length=n->∃a,cs=enc2 a/\P a) (h:DataW.trod enc Ψ w base Jp JP fuel sty [v]=some x):
  ∃L:List α,az n enc2 w w v L/\∀a ∈ L,P a:=by
 obtain⟨s,IM,L,h1,h2,h3,h4⟩:=na (λa cs=>cs=enc2 a/\P a) hu hN Kv hel h;refine⟨L,⟨s,IM,h1,h2,ZR _,h3,λIX=>?_⟩,λa ha=>?_⟩
 ·obtain⟨g,II,e,hg,Lq⟩:=h4 IX;refine⟨g,II,e,hg,λi y hy=>?_⟩;obtain⟨cs,⟨rfl,_⟩,hr⟩:=Lq i y hy;exact hr
 ·obtain⟨i,hi⟩:=List.getElem?_of_mem ha;obtain⟨g,II,e,hg,Lq⟩:=h4 (λe=>by rw[e] at ha;cases ha);obtain⟨cs,⟨_,hp⟩,_⟩:=Lq i a hi;exact hp
def yP (x:OI):Prop:=(∀c ∈ x.ch,CN c.2)/\0<=x.tk/\x.tk<=Ma
theorem Ak {H:Type} {w:ϖ} {base:Nat} {Jp:Nat->Bool} {JP:Bool} {enc:TypeId × ϗ->H} {fuel:Nat} {cs:List ϗ} {x:DataW H × List MemPlace} (h:DataW.trod enc Ψ w base Jp JP fuel 80 cs=some x)(hl:cs.length=10):∃a:OI,jd w w a cs/\yP a:=by
 obtain⟨y0,y1,y2,y3,y4,y5,y6,y7,y8,y9,rfl⟩:=sE hl;obtain⟨x0,x3,x4,x5,x6,x7,x8,x9,e,-,-,-,-,-,-,-,hb,⟨f1,z1,t1⟩,⟨f2,z2,t2⟩⟩:=rI h;obtain⟨ch,Jq,JG⟩:=tX (enc2:=pg) (λc=>CN c.2) Tryz.underlying77 (show Ψ.cellsOf 86=15 by kernel_rfl) ρa (λf cs y hf hc=>by obtain⟨u0,u1,u2,u3,u4,u5,u6,u7,u8,u9,u10,u11,u12,u13,u14,rfl⟩:=pB hc;obtain⟨v0,v1,v2,v3,v4,v5,v6,v7,v8,v9,Lj,JR,Mj,NO,RW,e,-,-,-,b4,b5,b6,b7,b8,b9,b10,b11,b12,-,-⟩:=pz hf;exact⟨(v0,⟨v1,v2,v3,v4,v5,v6,v7,v8,v9,Lj,JR,Mj,NO,RW⟩),e,⟨b4.1,b5.1,b6.1⟩,⟨b7.1,b8.1,b9.1⟩,b10.1,b11.1,b12.1⟩) t1
 obtain⟨rl,Nr,-⟩:=tX (enc2:=pi) (λ_=>True) Tryz.underlying78 (show Ψ.cellsOf 88=9 by kernel_rfl) ρa (λf cs y hf hc=>by obtain⟨u0,u1,u2,u3,u4,u5,u6,u7,u8,rfl⟩:=vz hc;obtain⟨v0,v1,v2,v3,v4,v5,v6,v7,v8,e,-⟩:=rJ hf;exact⟨⟨⟨v0,v1,v2,v3⟩,⟨v4,v5,v6,v7⟩,v8⟩,e,trivial⟩) t2
 exact⟨⟨x0,ch,rl,⟨x3,x4,x5,x6,x7,x8⟩,x9⟩,⟨y1,y2,e,Jq,Nr⟩,JG,hb⟩
theorem qe {H:Type} {w:ϖ} {base:Nat} {Jp:Nat->Bool} {JP:Bool} {enc:TypeId × ϗ->H} {r:Reach} {b0:Nat} {v:ϗ} {d:DataW H} {p:List MemPlace} (hv:Value.okWide Ψ w r b0 26 v)(h:DataW.Trod enc Ψ w base Jp JP 26 v d p):
  ∃(T Lm:Int) (u:ϗ) (L:List OI),v=φ #[ι ε T,ι ε Lm,u]/\eC w w u L/\∀x ∈ L,yP x:=by
 obtain⟨cs,rfl,Kw⟩:=okWide_struct Tryz.underlying26 hv;obtain⟨l⟩:=cs;obtain⟨c0,c1,c2,rfl⟩:=vC (l:=l) (Kw.trans (show Ψ.cellsOf 26=3 by kernel_rfl));obtain⟨fuel,hf⟩:=h;obtain⟨T,Lm,e,-,-,⟨f,y,t⟩⟩:=rK (x:=(d,p)) (show DataW.trod enc Ψ w base Jp JP fuel 26 [c0,c1,c2]=some (d,p) by simpa [Value.cells] using hf);simp at e;obtain⟨rfl,rfl⟩:=e;obtain⟨s,IM,L,rfl,h2,h3,h4⟩:=na (λa cs=>jd w w a cs/\yP a) Tryz.underlying24 (show Ψ.cellsOf 80=10 by kernel_rfl) ρa (λf cs y hf hc=>Ak hf hc) t;refine⟨T,Lm,_,L,rfl,⟨s,IM,rfl,h2,ZR _,λi x hi=>?_⟩,λx hx=>?_⟩
 ·obtain⟨g,II,e,hg,Lq⟩:=h4 (λe=>by rw[e] at hi;simp at hi);obtain⟨cs,⟨ho,_⟩,hr⟩:=Lq i x hi;exact⟨g,II,cs,e,hg,ho,hr⟩
 ·obtain⟨i,hi⟩:=List.getElem?_of_mem hx;obtain⟨g,II,e,hg,Lq⟩:=h4 (λe=>by rw[e] at hx;cases hx);obtain⟨cs,⟨_,ho⟩,_⟩:=Lq i x hi;exact ho
end
end Go.Proofs.YtfdlemkplejdnaaGreat
