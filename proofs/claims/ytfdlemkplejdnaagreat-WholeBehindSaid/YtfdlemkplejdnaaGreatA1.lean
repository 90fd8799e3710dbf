/- WholeBehind, part 1. Conditions: none. -/
import Derived.Test.YtfdlemkplejdnaaGreatRows
import Derived.Handy
import Derived.WalkSpells
import Derived.WalkLawsBesides
import Derived.Lib.QuietBelow
import Derived.Below
import Derived.RowKit
import Derived.BigQuiet
import Derived.KernelRfl
import Derived.Tactics
import Derived.Deep.QuietTactic
import Derived.Deep.RegionHeld3
import Derived.Deep.CutRange
import Derived.Deep.DeepCutAuto
import Derived.RegionTactic
namespace Go.Proofs.YtfdlemkplejdnaaGreat
open Go.RowKit Go.Sort
open Value renaming int->ι,pointer->ψ,slice->ζ,tuple->χ,agg->φ,map->μ,bool->β
open IntKind renaming u64->υ,i64->ε,u16->ω
open Ending renaming returned->ϰ
open Go.Proofs.Tryz renaming prog->Ψ,underlying3->Θ,underlying147->Δ,underlying152->Γ,underlying202->Φ,underlying39->Ξ,underlying207->Ω
open Go renaming World->ϖ,Value->ϗ
set_option linter.unusedVariables false
set_option linter.unusedSimpArgs false
set_option maxHeartbeats 8000000
set_option maxRecDepth 100000
def hi (n:Int):Int:=n / 18446744073709551616 % 18446744073709551616
def lo (n:Int):Int:=n % 18446744073709551616
def aV (n:Int):Int:=n % 4294967296
def bX (n:Int):Int:=n / 4294967296 % 4294967296
def gV (n:Int):Int:=n / 18446744073709551616 % 4294967296
def iY (n:Int):Int:=n / 79228162514264337593543950336 % 4294967296
def ai (n:Int):Prop:=0<=n/\n<340282366920938463463374607431768211456
def bp (n:Int):Int:=n % 340282366920938463463374607431768211456
theorem jp (n:Int):ai (bp n):=by unfold ai bp;omega
theorem iJ {n:Int} (h:ai n):bp n=n:=by unfold ai at h;unfold bp;omega
abbrev wv (n:Int):Value:=.agg #[.int .u64 (hi n),.int .u64 (lo n)]
abbrev nv (n:Int):Value:=.agg #[.int .u64 (aV n),.int .u64 (bX n),.int .u64 (gV n),.int .u64 (iY n)]
theorem ff (n:Int):0<=hi n/\hi n<=18446744073709551615:=by unfold hi;omega
theorem dO (n:Int):0<=lo n/\lo n<=18446744073709551615:=by unfold lo;omega
theorem dK (n:Int):0<=aV n/\aV n<=4294967295:=by unfold aV;omega
theorem dL (n:Int):0<=bX n/\bX n<=4294967295:=by unfold bX;omega
theorem dM (n:Int):0<=gV n/\gV n<=4294967295:=by unfold gV;omega
theorem dN (n:Int):0<=iY n/\iY n<=4294967295:=by unfold iY;omega
theorem mT {n:Int} (h:ai n):hi n*18446744073709551616+lo n=n:=by unfold ai at h;unfold hi lo;omega
theorem El {h l:Int} (h0:0<=h)(h1:h<=18446744073709551615)(l0:0<=l)(l1:l<=18446744073709551615):hi (h*18446744073709551616+l)=h:=by unfold hi;omega
theorem Eu {h l:Int} (l0:0<=l)(l1:l<=18446744073709551615):lo (h*18446744073709551616+l)=l:=by unfold lo;omega
theorem DI {n:Int} (h:ai n):aV n+bX n*4294967296+gV n*18446744073709551616+iY n*79228162514264337593543950336=n:=by
 unfold ai at h;unfold aV bX gV iY;omega
theorem Eh {x y z t:Int} (hx:0<=x/\x<=4294967295)(hy:0<=y/\y<=4294967295)(hz:0<=z/\z<=4294967295)(ht:0<=t/\t<=4294967295) {n:Int}
  (hn:n=x+y*4294967296+z*18446744073709551616+t*79228162514264337593543950336):
  aV n=x/\bX n=y/\gV n=z/\iY n=t:=by
 unfold aV bX gV iY;omega
theorem iR {x y z t n:Int} (hx:0<=x/\x<=4294967295)(hy:0<=y/\y<=4294967295)(hz:0<=z/\z<=4294967295)(ht:0<=t/\t<=4294967295)
  (hn:n=x+y*4294967296+z*18446744073709551616+t*79228162514264337593543950336):
  Value.agg #[.int .u64 x,.int .u64 y,.int .u64 z,.int .u64 t]=nv n:=by
 obtain⟨e0,e1,e2,e3⟩:=Eh hx hy hz ht hn;rw[nv,e0,e1,e2,e3]
theorem ut {h l n:Int} (h0:0<=h/\h<=18446744073709551615)(l0:0<=l/\l<=18446744073709551615)(hn:n=h*18446744073709551616+l):
  Value.agg #[.int .u64 h,.int .u64 l]=wv n:=by
 subst hn;rw[wv,El h0.1 h0.2 l0.1 l0.2,Eu l0.1 l0.2]
@[go_sem] theorem Bu (w:World) (n:Nat) (o:Obj):(w.drewN n).alloc o=(w.alloc o).drewN n:=rfl
@[go_sem] theorem yK (w:World) (n:Nat) (a:Addr) (v:Value):(w.drewN n).setCell a v=(w.setCell a v).drewN n:=rfl
theorem ag {p:Prop} (h:p):Hid p:=h
theorem kH {a b:Value} (h:a=b):Ending.returned a=.returned b:=by rw[h]
theorem EY {k k':IntKind} {a b a' b':Int} (h:a=a')(h':b=b'):Ending.returned (.tuple #[.int k a,.int k' b])=.returned (.tuple #[.int k a',.int k' b']):=by rw[h,h']
theorem xA {h l n:Int} {p q:Bool} (hh:h=hi n)(hl:l=lo n)(hp:p=q):Ending.returned (.tuple #[.agg #[.int .u64 h,.int .u64 l],.bool p])=.returned (.tuple #[wv n,.bool q]):=by rw[hh,hl,hp]
theorem Fa {h l n:Int} (hh:h=hi n)(hl:l=lo n):Ending.returned (.agg #[.int .u64 h,.int .u64 l])=.returned (wv n):=by rw[hh,hl]
theorem EZ {v v':Value} {k:IntKind} {c c':Int} (h:v=v')(h':c=c'):Ending.returned (.tuple #[v,.int k c])=.returned (.tuple #[v',.int k c']):=by rw[h,h']
theorem dP {k:IntKind} {a b:Int} (h:a=b):Ending.returned (.int k a)=.returned (.int k b):=by rw[h]
theorem Fb {a b:Bool} (h:a=b):Ending.returned (.bool a)=.returned (.bool b):=by rw[h]
theorem DT {W w1:World} (hb:Below W.heap.size W w1):(∀b o,b<W.heap.size->w1.cell? ⟨b,o,none⟩=W.cell? ⟨b,o,none⟩)/\(∀b o,b<W.heap.size->w1.frozen? ⟨b,o,none⟩=W.frozen? ⟨b,o,none⟩):=
 ⟨λb o h=>hb.cell (p:=⟨b,o,none⟩) h,λb o h=>hb.frozen (p:=⟨b,o,none⟩) h⟩
def ah (w:World)(B:Nat)(cs:Array Value)(t:TypeId):Prop:=w.heap[B]?=some (.cells cs t)
theorem ah.cell {w:World} {B:Nat} {cs:Array Value} {t:TypeId} (h:ah w B cs t)(i:Nat):w.cell? ⟨B,i,none⟩=cs[i]?:=by
 unfold ah at h;simp[World.cell?,h]
theorem ah.frozen {w:World} {B:Nat} {cs:Array Value} {t:TypeId} (h:ah w B cs t)(i:Nat):w.frozen? ⟨B,i,none⟩=false:=by
 unfold ah at h;simp[World.frozen?,h]
theorem ah.size {w:World} {B:Nat} {cs:Array Value} {t:TypeId} (h:ah w B cs t):B<w.heap.size:=by
 unfold ah at h;exact(Array.getElem?_eq_some_iff.1 h).1
theorem ah.below {w w':World} {K B:Nat} {cs:Array Value} {t:TypeId} (h:ah w B cs t)(hb:Below K w w')(hB:B<K):ah w' B cs t:=by
 unfold ah at*;rw[hb.block B hB];exact h
theorem ah.drewN {w:World} {B:Nat} {cs:Array Value} {t:TypeId} (h:ah w B cs t)(n:Nat):ah (w.drewN n) B cs t:=h
theorem ah.drew {w:World} {B:Nat} {cs:Array Value} {t:TypeId} (h:ah w B cs t):ah w.drew B cs t:=h
theorem ah.alloc_old {w:World} {B:Nat} {cs:Array Value} {t:TypeId} (h:ah w B cs t)(o:Obj):ah (w.alloc o) B cs t:=by
 have hs:=h.size;unfold ah at*;rw[Below.heap_alloc _ _ _ hs];exact h
theorem ah.alloc_new (w:World) {B:Nat} (cs:Array Value)(t:TypeId)(hB:B=w.heap.size):ah (w.alloc (.cells cs t)) B cs t:=by
 subst hB;unfold ah World.alloc;simp
theorem ah.set_other {w:World} {B:Nat} {cs:Array Value} {t:TypeId} (h:ah w B cs t) {a:Addr} (ha:B≠a.block)(v:Value):ah (w.setCell a v) B cs t:=by
 unfold ah at*;rw[Below.heap_setCell _ _ _ _ ha];exact h
theorem ah.set_same {w:World} {B:Nat} {cs cs':Array Value} {t:TypeId} {i:Nat} {v:Value} (h:ah w B cs t)(e:cs.setIfInBounds i v=cs'):ah (w.setCell ⟨B,i,none⟩ v) B cs' t:=by
 unfold ah at*;subst e;simp[World.setCell,Array.getElem?_modify,h]
theorem cj {P:Program} {c:Code} {Q:Exit->Act->World->Prop} {n:Nat} {a:Act} {W:World} (F:World->Prop)(h:F W)(k:∀v,F v->Code.rounds P c Q n a v):Code.rounds P c Q n a W:=k W h
theorem aI {P:Program} {c:Code} {Q:Exit->Act->World->Prop} {a:Act} {W:World} (F:World->Prop)(h:F W)(k:∀v,F v->c.wp P Q a v):c.wp P Q a W:=k W h
theorem um (x:Nat)(h:x<18446744073709551616):x / 9223372036854775808=if x.testBit 63 then 1 else 0:=by
 rw[Nat.testBit_eq_decide_div_mod_eq];simp only[decide_eq_true_eq];split<;>omega
theorem tb (x:Nat)(h:x<18446744073709551616):x.testBit 63=decide (9223372036854775808<=x):=by
 rw[Nat.testBit_eq_decide_div_mod_eq];simp only[decide_eq_decide];omega
theorem te (x:Nat)(h:x<18446744073709551616):(18446744073709551615 - x).testBit 63=!decide (9223372036854775808<=x):=by
 rw[tb _ (by omega)];by_cases h':9223372036854775808<=x<;>simp[h']<;>omega
theorem uH (a b c:Nat)(ha:a<18446744073709551616)(hb:b<18446744073709551616)(hc:c<=1):
  ((a &&& b) ||| ((a ||| b) &&& (18446744073709551615 - (a+b+c) % 18446744073709551616))) / 9223372036854775808=(a+b+c) / 18446744073709551616:=by
 have hs:(a+b+c) % 18446744073709551616<18446744073709551616:=by omega
 rw[um _ (Nat.or_lt_two_pow (n:=64) (Nat.and_lt_two_pow a hb) (Nat.and_lt_two_pow _ (by omega)))];simp only[Nat.testBit_or,Nat.testBit_and,te _ hs,tb a ha,tb b hb];by_cases h1:9223372036854775808<=a<;>by_cases h2:9223372036854775808<=b<;>by_cases h3:9223372036854775808<=(a+b+c) % 18446744073709551616<;>simp[h1,h2,h3]<;>omega
theorem rF (a b c s:Nat)(ha:a<18446744073709551616)(hb:b<18446744073709551616)(hc:c<=1)(hs:s<18446744073709551616)
  (he:(s:Int)=((a:Int) - b - c) % 18446744073709551616):
  ((((18446744073709551615 - a) &&& b) ||| ((18446744073709551615 - (a ^^^ b)) &&& s)) / 9223372036854775808:Nat)=if (a:Int)<b+c then 1 else 0:=by
 have hx:a ^^^ b<18446744073709551616:=Nat.xor_lt_two_pow (n:=64) ha hb;rw[um _ (Nat.or_lt_two_pow (n:=64) (Nat.and_lt_two_pow _ hb) (Nat.and_lt_two_pow _ hs))];simp only[Nat.testBit_or,Nat.testBit_and,te _ ha,tb b hb,tb s hs];rw[te _ hx,<- tb _ hx,Nat.testBit_xor,tb a ha,tb b hb];by_cases h1:9223372036854775808<=a<;>by_cases h2:9223372036854775808<=b<;>by_cases h3:9223372036854775808<=s<;>simp[h1,h2,h3]<;>omega
theorem fG (x y:Int)(hx:0<=x/\x<=4294967295)(hy:0<=y/\y<=4294967295):0<=x*y/\x*y<=18446744065119617025:=by
 refine⟨Int.mul_nonneg hx.1 hy.1,?_⟩;have:=Int.mul_le_mul hx.2 hy.2 hy.1 (by omega:(0:Int)<=4294967295);omega
theorem mZ (a b:Int):a*b=(a / 4294967296*(b / 4294967296))*18446744073709551616+(a / 4294967296*(b % 4294967296))*4294967296+(a % 4294967296*(b / 4294967296))*4294967296+a % 4294967296*(b % 4294967296):=by
 have h1:a=a / 4294967296*4294967296+a % 4294967296:=by omega
 have h2:b=b / 4294967296*4294967296+b % 4294967296:=by omega
 generalize a / 4294967296=x at*;generalize b / 4294967296=y at*;generalize a % 4294967296=z at*;generalize b % 4294967296=t at*;subst h1 h2;rw[Int.add_mul,Int.mul_add,Int.mul_add];have e1:x*4294967296*(y*4294967296)=x*y*18446744073709551616:=by
  rw[Int.mul_assoc,Int.mul_left_comm 4294967296 y,show (4294967296*4294967296:Int)=18446744073709551616 from rfl,Int.mul_assoc]
 have e2:x*4294967296*t=x*t*4294967296:=by rw[Int.mul_right_comm]
 have e3:z*(y*4294967296)=z*y*4294967296:=by rw[Int.mul_assoc]
 rw[e1,e2,e3];omega
theorem jN (a b:Int)(ha:0<=a)(Pj:a<=18446744073709551615)(hb:0<=b)(f':b<=18446744073709551615):0<=a*b/\a*b<=340282366920938463426481119284349108225:=by
 refine⟨Int.mul_nonneg ha hb,?_⟩;have:=Int.mul_le_mul Pj f' hb (by omega:(0:Int)<=18446744073709551615);omega
structure KO (F:Nat->Prop) (w w':World):Prop where
 os:w'.os=w.os
 tape:w'.tape=w.tape
 output:w'.output=w.output
 size:w.heap.size<=w'.heap.size
 block:∀k,k<w.heap.size->¬F k->w'.heap[k]?=w.heap[k]?
theorem KO.refl (F:Nat->Prop)(w:World):KO F w w:=⟨rfl,rfl,rfl,Nat.le_refl _,λ_ _ _=>rfl⟩
theorem KO.trans {F G:Nat->Prop} {a b c:World} (h:KO F a b)(k:KO G b c)(hFG:∀k,k<a.heap.size->G k->F k):KO F a c:=
 ⟨k.os.trans h.os,k.tape.trans h.tape,k.output.trans h.output,Nat.le_trans h.size k.size,λi hi hF=>(k.block i (Nat.lt_of_lt_of_le hi h.size) (λg=>hF (hFG i hi g))).trans (h.block i hi hF)⟩
theorem KO.mono {F G:Nat->Prop} {w w':World} (h:KO F w w')(hFG:∀k,k<w.heap.size->F k->G k):KO G w w':=
 ⟨h.os,h.tape,h.output,h.size,λk hk hG=>h.block k hk (λf=>hG (hFG k hk f))⟩
theorem KO.of_below {F:Nat->Prop} {w w':World} (h:Below w.heap.size w w'):KO F w w':=⟨h.os,h.tape,h.output,h.size,λk hk _=>h.block k hk⟩
theorem KO.below {F:Nat->Prop} {w w':World} {B:Nat} (h:KO F w w')(hB:B<=w.heap.size)(hF:∀k,k<B->¬F k):Below B w w':=
 ⟨h.os,h.tape,h.output,h.size,λk hk=>h.block k (Nat.lt_of_lt_of_le hk hB) (hF k hk)⟩
theorem KO.drew {F:Nat->Prop} {a w:World} (h:KO F a w):KO F a w.drew:=⟨h.os,h.tape,h.output,h.size,h.block⟩
theorem KO.drewN {F:Nat->Prop} {a w:World} (h:KO F a w)(n:Nat):KO F a (w.drewN n):=
 h.trans (KO.of_below (F:=λ_=>False) (below_drewN (Below.refl w.heap.size w) n)) (λ_ _ f=>f.elim)
theorem KO.setCell {F:Nat->Prop} {a w:World} (h:KO F a w) {p:Addr} (hp:p.block<a.heap.size->F p.block)(u:Value):KO F a (w.setCell p u):=
 ⟨h.os,h.tape,h.output,by simp[World.setCell];exact h.size,λk hk hF=>by
  rw[Below.heap_setCell _ _ _ _ (λe=>hF (by subst e;exact hp hk))];exact h.block k hk hF⟩
theorem KO.alloc {F:Nat->Prop} {a w:World} (h:KO F a w)(o:Obj):KO F a (w.alloc o):=
 ⟨h.os,h.tape,h.output,by simp;have:=h.size;omega,λk hk hF=>by rw[Below.heap_alloc _ _ _ (Nat.lt_of_lt_of_le hk h.size)];exact h.block k hk hF⟩
theorem KO.step {F:Nat->Prop} {a b c:World} {B:Nat} (h:KO F a b)(k:Below B b c)(hF:∀k,k<a.heap.size->B<=k->F k):KO F a c:=
 ⟨k.os.trans h.os,k.tape.trans h.tape,k.output.trans h.output,Nat.le_trans h.size k.size,λi hi hn=>(k.block i (by
  rcases Nat.lt_or_ge i B with g|g
  ·exact g
  ·exact absurd (hF i hi g) hn)).trans (h.block i hi hn)⟩
theorem KO.step0 {F:Nat->Prop} {a b c:World} (h:KO F a b)(k:Below b.heap.size b c):KO F a c:=
 h.step k (λi hi hb=>absurd hb (by have:=h.size;omega))
theorem KO.size2 {a b c:World} (h:KO (λ_=>False) a b)(k:KO (λx=>x=a.heap.size) b c):Below a.heap.size a c:=
 ⟨k.os.trans h.os,k.tape.trans h.tape,k.output.trans h.output,Nat.le_trans h.size k.size,λi hi=>(k.block i (Nat.lt_of_lt_of_le hi h.size) (λe=>by omega)).trans (h.block i hi (λf=>f.elim))⟩
theorem KO.of_sub {F G:Nat->Prop} {a b c:World} (h:KO F a b)(k:KO G b c)(hFG:∀x,x<a.heap.size->G x->F x):KO F a c:=h.trans k hFG
theorem aU {P:Program} {c:Code} {Q:Exit->Act->World->Prop} {a:Act} {W:World} (V:World)(R F:World->Prop)(r:R W)(h:R W->F W)(k:∀v,F v->c.wp P Q a v):c.wp P Q a W:=k W (h r)
theorem av {P:Program} {f:FuncId} {args:Array Value} {Q:Ending->World->Prop} {W:World} (V:World)(R F:World->Prop)(r:R W)(h:R W->F W)(k:∀v,F v->Calls P f args v Q):Calls P f args W Q:=k W (h r)
theorem xM {P:Program} {c:Code} {Q:Exit->Act->World->Prop} {n:Nat} {a:Act} {W:World} (V:World)(R F:World->Prop)(r:R W)(h:R W->F W)(k:∀v,F v->Code.rounds P c Q n a v):Code.rounds P c Q n a W:=k W (h r)
theorem dW {P:Program} {f:Func} {Q:Ending->World->Prop} {x:Exit} {a:Act} {W:World} (V:World)(R F:World->Prop)(r:R W)(h:R W->F W)(k:∀v,F v->bodyPost P f Q x a v):bodyPost P f Q x a W:=k W (h r)
theorem af {v:World} {B:Nat} {cs:Array Value} {t:TypeId} (h:ah v B cs t)(d:Nat)(os:Array Obj)(i:Nat):(grow (redrawn v d) os).cell? ⟨B,i,none⟩=cs[i]?:=
 ((below_regrown v d os).cell (p:=⟨B,i,none⟩) h.size).trans (h.cell i)
theorem an {P:Program} {f:FuncId} {args:Array Value} {w:World} {d:Nat} {os:Array Obj} {v:Value}
  (h:Calls P f args (grow (redrawn w d) os) λe w'=>e=.returned v/\grow (redrawn w d) os=w'):Calls P f args (grow (redrawn w d) os) λe w''=>e=.returned v/\∃p:Regrown,w''=grow (redrawn w p.d) p.os:=
 h.mono λ_ _ ⟨he,hb⟩=>⟨he,⟨d,os⟩,hb.symm⟩
section
variable {P:Program} {IA:Array Oper} {md:Region.Mode} {C:World->Prop}
def eR (md:Region.Mode)(IA:Array Oper)(j:Nat):List Nat:=match IA[j]? with
 | some o=>(o.after.toList.filter (Region.binds md)).map (·.on)
 | none=>[]
def jA (md:Region.Mode)(IA:Array Oper)(IE:Array Bool):Prop:=∀j i,IE.getD j false=true->i ∈ eR md IA j->IE.getD i false=true
theorem fH {IE:Array Bool} {j i:Nat} (h:j ∈ Region.ready md IA IE)(hi:i ∈ eR md IA j):IE.getD i false=true:=by
 obtain⟨_,o,ho,Jg⟩:=mem_ready.1 h;unfold eR at hi;rw[ho] at hi;obtain⟨e,he,rfl⟩:=List.mem_map.1 hi;have:=List.mem_filter.1 he;exact Jg e (by simpa using this.1) this.2
theorem jA.add {IE:Array Bool} {j:Nat} (h:jA md IA IE)(hj:j ∈ Region.ready md IA IE):jA md IA (IE.setIfInBounds j true):=by
 intro k i hk hi;refine getD_set_true ?_;by_cases hkj:k=j
 ·subst hkj;exact fH hj hi
 ·rw[getD_set_ne false (Ne.symm hkj)] at hk;exact h k i hk hi
def jH (md:Region.Mode)(IA:Array Oper)(n:Nat):Bool:=
 (List.range (IA.size - 1)).all λi=>if i<n then (List.range (n+1)).any λj=>decide (i<j) && (eR md IA j).contains i else (eR md IA (i+1)).contains i
theorem rO {n:Nat} (hn:n<IA.size)(h:jH md IA n=true):(∀i,i<n->∃j,i<j/\j<=n/\i ∈ eR md IA j)/\(∀i,n<=i->i+1<IA.size->i ∈ eR md IA (i+1)):=by
 unfold jH at h;rw[List.all_eq_true] at h;constructor
 ·intro i hi;have:=h i (List.mem_range.2 (by omega));rw[if_pos hi,List.any_eq_true] at this;obtain⟨j,hj,hc⟩:=this;simp at hc hj;exact⟨j,hc.1,by omega,hc.2⟩
 ·intro i hi hs;have:=h i (List.mem_range.2 (by omega));rw[if_neg (by omega)] at this;simpa using this
theorem jr {IE:Array Bool} {t:Nat} (ht:t ∈ Region.ready md IA IE):t<IA.size:=by
 obtain⟨_,o,ho,_⟩:=mem_ready.1 ht;exact(Array.getElem?_eq_some_iff.1 ho).1
theorem sN {n:Nat} {IE:Array Bool} (hn:n<IA.size)(hc:jH md IA n=true)(hl:jA md IA IE) {t:Nat} (ht:t ∈ Region.ready md IA IE)(hnt:n<=t):∀i,i<n->IE.getD i false=true:=by
 obtain⟨c1,c2⟩:=rO hn hc
 -- what t eR for:all from n up to t - 1
 have up:∀d i,i+d+1=t->n<=i->IE.getD i false=true:=by
  intro d
  induction d with
  | zero=>
   intro i hi LX;have hi':i+1=t:=by omega
   have:=c2 i LX (by rw[hi'];exact jr ht);rw[hi'] at this;exact fH ht this
  | succ d ih=>
   intro i hi LX;have h1:=ih (i+1) (by omega) (by omega);exact hl _ _ h1 (c2 i LX (by have:=jr ht;omega))
 have dn:∀d i,i+d+1=n->IE.getD i false=true:=by
  intro d
  induction d using Nat.strongRecOn with
  | _ d ih=>
   intro i hi;obtain⟨j,hij,hjn,hw⟩:=c1 i (by omega);by_cases hj:j=n
   ·subst hj;by_cases htj:t=j
    ·subst htj;exact fH ht hw
    ·exact hl _ _ (up (t - j - 1) j (by omega) (Nat.le_refl _)) hw
   ·exact hl _ _ (ih (n - j - 1) (by omega) j (by omega)) hw
 intro i hi;exact dn (n - i - 1) i (by omega)
def mj (P:Program)(md:Region.Mode)(IA:Array Oper)(C:World->Prop)(B:Array Bool->Act->Prop):Nat->Array Bool->Act->Prop
 | 0,IE,a=>B IE a
 | fuel+1,IE,a=>Region.ready md IA IE≠[]/\∀i ∈ Region.ready md IA IE,qOp P IA C i (mj P md IA C B fuel (IE.setIfInBounds i true)) a
theorem n9 {l:Array Bool} {i:Nat} (h:l.getD i false=true):l.getD i true=true:=by
 simp only[Array.getD_eq_getD_getElem?] at*;rcases Nat.lt_or_ge i l.size with h'|h'
 ·simpa [h'] using h
 ·simp[Array.getElem?_eq_none h']
theorem o8 {n:Nat} (hn:n<IA.size)(hc:jH md IA n=true) {B:Array Bool->Act->Prop} (hB:∀L a,B L a->∀j,j<n->L.getD j true=true) {i:Nat} {oi:Oper} {v:Value} (Mm:i<n)(hi:IA[i]?=some oi)(hsel:∀(j:Nat)(o:Oper) cs b,IA[j]?=some o->o.op≠.select cs b):
  ∀(fuel:Nat) (IE:Array Bool) (a:Act),jA md IA IE->
   (∀j oj,IA[j]?=some oj->j≠i->IE.getD j true=false->(∀e ∈ oj.after,Region.binds md e=true->e.on≠i)->oi.apart IA oj=true)->
   i ∈ Region.ready md IA IE->YieldsIn P IA C oi v a->
   mj P md IA C B fuel (IE.setIfInBounds i true) (a.put oi.dst v)->mj P md IA C B (fuel+1) IE a:=by
 intro fuel
 induction fuel with
 | zero=>
  intro IE a hL _ hr hy H;refine⟨λh=>(by rw[h] at hr;cases hr),λj hj=>?_⟩;by_cases K6:j=i
  ·subst K6;exact hy.qOp hi H
  ·exfalso;have hu:=(mem_ready.1 hj).1;by_cases hjn:j<n
   ·have:=hB _ _ H j hjn;rw[getD_set_ne true (Ne.symm K6)] at this;rw[this] at hu;cases hu
   ·have:=n9 (sN hn hc hL hj (by omega) i Mm);rw[(mem_ready.1 hr).1] at this;cases this
 | succ fuel ih=>
  intro IE a hL RK hr hy H;refine⟨λh=>(by rw[h] at hr;cases hr),λj hj=>?_⟩;by_cases K6:j=i
  ·subst K6;exact hy.qOp hi H
  ·have h1:=H.2 j (ready_mono hj K6);obtain⟨hjun,oj,hoj,Jg⟩:=mem_ready.1 hj;have hnot:∀e ∈ oj.after,Region.binds md e=true->e.on≠i:=λe he hb heq=>by
    have h1:=Jg e he hb;have h0:=(mem_ready.1 hr).1;rw[heq] at h1;rw[n9 h1] at h0;cases h0
   have h2:=qOp_put hoj (RK j oj hoj K6 hjun hnot) (λcs b=>hsel i oi cs b hi) (λcs b=>hsel j oj cs b hoj) hy h1;have hfree':∀k ok,IA[k]?=some ok->k≠i->(IE.setIfInBounds j true).getD k true=false->
     (∀e ∈ ok.after,Region.binds md e=true->e.on≠i)->oi.apart IA ok=true:=λk ok hk hki Yk NF=>by
    refine RK k ok hk hki ?_ NF;by_cases hjk:j=k
    ·subst hjk;exact hjun
    ·rw[getD_set_ne true hjk] at Yk;exact Yk
   refine qOp_mono (λa' h3=>ih (IE.setIfInBounds j true) a' (hL.add hj) hfree' (ready_mono hr (Ne.symm K6)) h3.1 ?_) h2;rw[Array.setIfInBounds_comm _ _ K6];exact h3.2
def tT (md:Region.Mode)(IA:Array Oper):Nat->Nat->Array Bool->Bool
 | 0,_,_=>true
 | fuel+1,k,IE=>(Region.ready md IA IE).contains k && Region.free md IA IE k && tT md IA fuel (k+1) (IE.setIfInBounds k true)
def oG:Nat->Nat->Array Bool->Array Bool
 | 0,_,IE=>IE
 | fuel+1,k,IE=>oG fuel (k+1) (IE.setIfInBounds k true)
def qM (md:Region.Mode)(IA:Array Oper):Nat->Nat->Array Bool->Bool
 | 0,_,IE=>(Region.ready md IA IE).isEmpty
 | fuel+1,k,IE=>decide (Region.ready md IA IE=[k]) && qM md IA fuel (k+1) (IE.setIfInBounds k true)
theorem ml {n:Nat} (hn:n<IA.size)(hc:jH md IA n=true) {Q:Act->Prop} (hs:Region.noSelect IA=true):∀(l:List Oper)(k:Nat)(IE:Array Bool)(a:Act),(∀j,j<l.length->l[j]?=IA[k+j]?)->k+l.length=n->jA md IA IE->(∀j,j<k->IE.getD j true=true)->
  tT md IA l.length k IE=true->wpQuiet P IA C Q l a->mj P md IA C (λL a=>(∀j,j<n->L.getD j true=true)/\L=oG l.length k IE/\Q a) l.length IE a
 | [],k,IE,_,_,hk,_,ha,_,h=>⟨λj hj=>ha j (by simp at hk;omega),rfl,h⟩
 | o::l,k,IE,a,hl,hk,hL,ha,hB,h=>by
  have h0:IA[k]?=some o:=by simpa using (hl 0 (by simp)).symm
  simp only[List.length_cons,tT,Bool.and_eq_true] at hB;obtain⟨⟨hr,hf⟩,hB'⟩:=hB;have hr':k ∈ Region.ready md IA IE:=by simpa using hr
  have JY:qOp P IA C k (wpQuiet P IA C Q l) a:=by unfold qOp;simp only[h0];exact h
  obtain⟨v,hy,hK⟩:=yieldsIn_of_qOp h0 JY;refine o8 hn hc (λL a h=>h.1) (by simp at hk;omega) h0 (Region.noSelect_spec hs) l.length IE a hL (Region.free_spec h0 hf) hr' hy ?_;refine ml hn hc hs l (k+1) _ _ (λj hj=>by have:=hl (j+1) (by simp;omega);simpa [Nat.add_assoc,Nat.add_comm 1 j] using this) (by simp at hk;omega) (hL.add hr') (λj hj=>?_) hB' hK;by_cases hkj:k=j
  ·subst hkj;simp only[Array.getD_eq_getD_getElem?];rcases Nat.lt_or_ge k IE.size with h'|h'
   ·simp[h']
   ·simp[Array.getElem?_eq_none (show (IE.setIfInBounds k true).size<=k by simpa using h')]
  ·rw[getD_set_ne true hkj];exact ha j (by omega)
theorem mo {m:Nat} {B:Array Bool->Act->Prop} {Q':Exit->Act->World->Prop} (hQ:∀L a w,C w->B L a->wpAny P md IA Q' m L a w):∀(fuel:Nat)(IE:Array Bool)(a:Act)(w:World),C w->
  mj P md IA C B fuel IE a->wpAny P md IA Q' (fuel+m) IE a w
 | 0,L,a,w,hw,h=>by rw[Nat.zero_add];exact hQ _ _ _ hw h
 | fuel+1,L,a,w,hw,h=>by
  rw[show fuel+1+m=(fuel+m)+1 by omega];exact⟨λh0=>absurd h0 h.1,λi hi=>wpOp_of_qOp hw (λa' w' NG=>mo hQ fuel _ a' w' NG) (h.2 i hi)⟩
theorem mp {Q:Exit->Act->World->Prop}:∀(l:List Oper)(k:Nat)(IE:Array Bool)(a:Act)(w:World),(∀j,j<l.length->l[j]?=IA[k+j]?)->qM md IA l.length k IE=true->wpList P IA Q l a w->wpAny P md IA Q l.length IE a w
 | [],_,_,_,_,_,hB,h=>⟨by simpa [qM] using hB,h⟩
 | o::l,k,IE,a,w,hl,hB,h=>by
  simp only[List.length_cons,qM,Bool.and_eq_true,decide_eq_true_eq] at hB;have h0:IA[k]?=some o:=by simpa using (hl 0 (by simp)).symm
  have ih:=λa w=>mp (Q:=Q) l (k+1) (IE.setIfInBounds k true) a w (λj hj=>by have:=hl (j+1) (by simp;omega);simpa [Nat.add_assoc,Nat.add_comm 1 j] using this) hB.2;refine⟨λh=>(by rw[hB.1] at h;cases h),λi hi=>?_⟩;rw[hB.1] at hi;obtain rfl:i=k:=by simpa using hi
  unfold wpOp;simp only[h0];unfold wpList at h;split
  ·rename_i hw;rw[if_pos hw] at h;exact h.imp (Oper.wp_mono ih) id
  ·rename_i hw;rw[if_neg hw] at h;exact ih _ _ h
def uj (md:Region.Mode)(IA:Array Oper)(n:Nat):Bool:=
 Region.noSelect IA && decide (n<IA.size) && jH md IA n && tT md IA n 0 (Array.replicate IA.size false) && qM md IA (IA.size - n) n (oG n 0 (Array.replicate IA.size false))
theorem lx (m j:Nat):(Array.replicate m false).getD j false=false:=by
 simp only[Array.getD_eq_getD_getElem?,Array.getElem?_replicate];split<;>rfl
theorem mu {id:Nat} {Q:Exit->Act->World->Prop} {a:Act} {w:World} {l:List Oper} (n:Nat)(hm:P.follows .mixedOrders=true)(hB:uj .any l.toArray n=true)(hC:C {w with drawn:=w.drawn+1})
  (h:wpQuiet P l.toArray C (λa'=>∀w',C w'->wpList P l.toArray Q (l.drop n) a' w') (l.take n) a):(Code.region id l.toArray true).wp P Q a w:=by
 simp only[uj,Bool.and_eq_true,decide_eq_true_eq] at hB;obtain⟨⟨⟨⟨hs,hn⟩,hc⟩,hx⟩,ht⟩:=hB;have hnl:n<l.length:=by simpa using hn
 have Sz:(l.take n).length=n:=by rw[List.length_take];omega
 have hdr:(l.drop n).length=l.length - n:=List.length_drop;refine wp_region_any hm ?_;have h1:=ml (md:=.any) hn hc hs (l.take n) 0 (Array.replicate l.toArray.size false) a (λj hj=>by
   rw[Sz] at hj;simp[hj]) (by rw[Sz];omega) (λj i hj _=>by rw[lx] at hj;cases hj) (λj hj=>absurd hj (by omega)) (by rw[Sz];exact hx) h
 rw[Sz] at h1;have h2:=mo (m:=l.length - n) (Q':=Q) (λL a w hw hL=>by
  obtain⟨_,rfl,hq⟩:=hL;have:=mp (md:=.any) (l.drop n) n (oG n 0 (Array.replicate l.toArray.size false)) a w (λj hj=>by simp[List.getElem?_drop]) (by rw[hdr];simpa using ht) (hq w hw);rw[hdr] at this;exact this) n _ a _ hC h1
 rw[show n+(l.length - n)=l.toArray.size by simp;omega] at h2;exact h2
theorem iA {id:Nat} {Q:Exit->Act->World->Prop} {a:Act} {w:World} {l:List Oper} (n:Nat)(hm:P.follows .mixedOrders=true)(hB:uj .any l.toArray n=true)
  (h:wpQuiet P l.toArray (λw'=>∃p:Regrown,w'=grow (redrawn w p.d) p.os) (λa'=>∀w',(∃p:Regrown,w'=grow (redrawn w p.d) p.os)->wpList P l.toArray Q (l.drop n) a' w') (l.take n) a):(Code.region id l.toArray true).wp P Q a w:=
 mu (C:=λw'=>∃p:Regrown,w'=grow (redrawn w p.d) p.os) n hm hB ⟨⟨w.drawn+1,#[]⟩,by rw[grow_empty];rfl⟩ h
end
abbrev ZF:=@decide_eq_false
abbrev ZT:=@decide_eq_true
abbrev ZN:=@beq_eq_false_iff_ne
abbrev ZI:=@if_neg
abbrev ZP:=@if_pos
abbrev ZL:=@List.length_append
abbrev ZM:=@List.mem_append
abbrev ZC:=@List.mem_cons
abbrev ZR:=@Nat.le_refl
abbrev ZJ:=@Int.le_refl
abbrev ZB:=@Nat.lt_of_lt_of_le
abbrev ZS:=@List.mem_singleton
abbrev ZA:=@List.append_nil
abbrev ZK:=@Nat.le_trans
abbrev ZG:=@congrArg
abbrev ZW:=@below_regrown
abbrev ZO:=@bodyPost_ret
abbrev ZD:=@List.nodup_cons
abbrev ZH:=@List.length_filter_le
abbrev ZU:=@Int.mul_le_mul_of_nonneg_left
abbrev ZV:=@Value.slice.inj
abbrev ZY:=@DataW.trod_int
abbrev ZZ:=@IntWalk.u64_in
abbrev gY:=@List.map_cons
abbrev mM:=@List.length_cons
abbrev cV:=@rounds_succ
abbrev rq:=@List.length_singleton
abbrev rt:=@List.mem_cons_of_mem
abbrev pf:=@List.length_map
abbrev bT:=@Calls.regrown_of
abbrev ax:=@absurd
abbrev vW:=@Classical.byContradiction
structure iB (n:Nat)
instance:Coe ϖ Nat:=⟨λw=>w.heap.size⟩
instance:Coe Nat ϗ:=⟨λb=>ψ (some ⟨b,0,none⟩)⟩
instance:Coe Nat (Option Addr):=⟨λb=>some ⟨b,0,none⟩⟩
instance:Coe Int ϗ:=⟨λx=>ι υ x⟩
def Kz:iB 0:=⟨⟩
instance:Coe (iB 0) ϗ:=⟨λ_=>ι ε 0⟩
def Ky:iB 1:=⟨⟩
instance:Coe (iB 1) ϗ:=⟨λ_=>ι υ 0⟩
def eN:iB 2:=⟨⟩
instance:Coe (iB 2) ϗ:=⟨λ_=>ι ω 0⟩
def Kn:iB 3:=⟨⟩
instance:Coe (iB 3) ϗ:=⟨λ_=>ζ none 0 0⟩
def Kp:iB 4:=⟨⟩
instance:Coe (iB 4) ϗ:=⟨λ_=>ψ none⟩
def dI:iB 5:=⟨⟩
instance:Coe (iB 5) ϗ:=⟨λ_=>β false⟩
def fJ:iB 6:=⟨⟩
instance:Coe (iB 6) ϗ:=⟨λ_=>β true⟩
def Ko:iB 7:=⟨⟩
instance:Coe (iB 7) ϗ:=⟨λ_=>ι ε 1⟩
def Ma:iB 20:=⟨⟩
instance:Coe (iB 20) Int:=⟨λ_=>18446744073709551615⟩
instance:Coe (iB 20) Nat:=⟨λ_=>18446744073709551615⟩
def Mb:iB 21:=⟨⟩
instance:Coe (iB 21) Int:=⟨λ_=>9223372036854775807⟩
instance:Coe (iB 21) Nat:=⟨λ_=>9223372036854775807⟩
def Mc:iB 22:=⟨⟩
instance:Coe (iB 22) Int:=⟨λ_=>9223372036854775808⟩
instance:Coe (iB 22) Nat:=⟨λ_=>9223372036854775808⟩
def Md:iB 23:=⟨⟩
instance:Coe (iB 23) Int:=⟨λ_=>4294967295⟩
instance:Coe (iB 23) Nat:=⟨λ_=>4294967295⟩
def Me:iB 24:=⟨⟩
instance:Coe (iB 24) Int:=⟨λ_=>4294967296⟩
instance:Coe (iB 24) Nat:=⟨λ_=>4294967296⟩
def Mf:iB 25:=⟨⟩
instance:Coe (iB 25) Int:=⟨λ_=>18446744073709551616⟩
instance:Coe (iB 25) Nat:=⟨λ_=>18446744073709551616⟩
abbrev CB (f:FuncId)(s:Array ϗ)(w:ϖ)(V:ϗ):Prop:=Calls Ψ f s w λe w'=>e=ϰ V/\Below w.heap.size w w'
abbrev aq (x:Int):Prop:=0<=x/\x<=18446744073709551615
abbrev je (x:Int):Prop:=0<=x/\x<=4294967295
abbrev HA (x:Int):Prop:=0<=x/\x<=9223372036854775807
abbrev kR (x:Int):Prop:=0<=x/\x<=1048576
class Mv (A:Prop) (w:outParam ϖ) (B:outParam (ϖ->Prop)):Prop where
  m:∀{v:ϖ},Below w.heap.size w v->A->B v
instance {A A':Prop} {B B':ϖ->Prop} {w:ϖ} [Mv A w B] [Mv A' w B']:Mv (A/\A') w (λv=>B v/\B' v):=⟨λk h=>⟨Mv.m k h.1,Mv.m k h.2⟩⟩
instance {w:ϖ} {b:Nat} {c:Array ϗ} {t:TypeId}:Mv (ah w b c t) w (λv=>ah v b c t):=⟨λk h=>h.below k h.size⟩
instance {F:Nat->Prop} {b w:ϖ}:Mv (KO F b w) w (λv=>KO F b v):=⟨λk h=>h.step0 k⟩
theorem Ks (F:Nat->Prop)(w:ϖ):KO F w w:=KO.refl F w
theorem θ2 {A B:Prop} (a:A)(b:B):A/\B:=⟨a,b⟩
theorem θ3 {A B C:Prop} (a:A)(b:B)(c:C):A/\B/\C:=⟨a,b,c⟩
theorem θ4 {A B C D:Prop} (a:A)(b:B)(c:C)(d:D):A/\B/\C/\D:=⟨a,b,c,d⟩
theorem θ5 {A B C D E:Prop} (a:A)(b:B)(c:C)(d:D)(e:E):A/\B/\C/\D/\E:=⟨a,b,c,d,e⟩
theorem θ6 {A B C D E F:Prop} (a:A)(b:B)(c:C)(d:D)(e:E)(f:F):A/\B/\C/\D/\E/\F:=⟨a,b,c,d,e,f⟩
theorem θ7 {A B C D E F G:Prop} (a:A)(b:B)(c:C)(d:D)(e:E)(f:F)(g:G):A/\B/\C/\D/\E/\F/\G:=⟨a,b,c,d,e,f,g⟩
theorem θ8 {A B C D E F G H:Prop} (a:A)(b:B)(c:C)(d:D)(e:E)(f:F)(g:G)(h:H):A/\B/\C/\D/\E/\F/\G/\H:=⟨a,b,c,d,e,f,g,h⟩
theorem θ9 {A B C D E F G H I:Prop} (a:A)(b:B)(c:C)(d:D)(e:E)(f:F)(g:G)(h:H)(i:I):A/\B/\C/\D/\E/\F/\G/\H/\I:=⟨a,b,c,d,e,f,g,h,i⟩
theorem Mw {A:Prop} {B:ϖ->Prop} {w v:ϖ} [Mv A w B] (k:Below w.heap.size w v)(h:A):B v:=Mv.m k h
theorem ah.r {w:ϖ} {B:Nat} {cs:Array ϗ} {t:TypeId} (h:ah w B cs t):(∀i,w.cell? ⟨B,i,none⟩=cs[i]?)/\(∀i,w.frozen? ⟨B,i,none⟩=false)/\B<w.heap.size:=⟨h.cell,h.frozen,h.size⟩
theorem ah.tr {v W w':ϖ} {B:Nat} {cs:Array ϗ} {t:TypeId} (_:ah v B cs t)(hb:Below W.heap.size W w')(r:ah W B cs t:=by (repeat' (first|(with_reducible (first|assumption|exact ah.alloc_new _ _ _ (by first|rfl|(simp;done)|omega)|apply ah.drewN|apply ah.drew|apply ah.alloc_old|apply ah.set_same|apply ah.set_other))|(show (_:Nat)≠_;first|omega|(simp;done)|(simp;omega))|((simp only[List.setIfInBounds_toArray,List.set_cons_succ,List.set_cons_zero]);(with_reducible exact rfl))|(with_reducible exact rfl)|(show (_:Array ϗ)=_;exact rfl)))):ah w' B cs t:=r.below hb r.size
abbrev Bk (w:ϖ)(B:Nat)(cs:Array ϗ)(t:TypeId):Prop:=(∀i,w.cell? ⟨B,i,none⟩=cs[i]?)/\B<w.heap.size/\ah w B cs t
theorem ah.bk {w:ϖ} {B:Nat} {cs:Array ϗ} {t:TypeId} (h:ah w B cs t):Bk w B cs t:=⟨h.cell,h.size,h⟩
theorem Bk.b {w:ϖ} {B:Nat} {cs:Array ϗ} {t:TypeId} (h:Bk w B cs t):ah w B cs t:=h.2.2
theorem Bk.tr {V W w':ϖ} {B:Nat} {cs:Array ϗ} {t:TypeId} (h:Bk V B cs t)(hb:Below W.heap.size W w')(k:Below V.heap.size V W):Bk w' B cs t:=((h.2.2.below k h.2.1).below hb (ZB h.2.1 k.size)).bk
theorem ah.re {w:ϖ} {B:Nat} {cs:Array ϗ} {t:TypeId} {o o':Obj} (h:ah (w.alloc o) B cs t)(hB:B<w.heap.size):Bk (w.alloc o') B cs t:=by
  have h2:ah w B cs t:=by unfold ah at*;rw[Below.heap_alloc _ _ _ hB] at h;exact h
  exact(h2.alloc_old o').bk
theorem ah.tb {V W w':ϖ} {B:Nat} {cs:Array ϗ} {t:TypeId} (h:ah V B cs t)(hb:Below W.heap.size W w')(k:Below V.heap.size V W):Bk w' B cs t:=((h.below k h.size).below hb (ZB h.size k.size)).bk
theorem Bk.drewN {w:ϖ} {B:Nat} {cs:Array ϗ} {t:TypeId} (h:Bk w B cs t)(n:Nat):Bk (w.drewN n) B cs t:=(h.2.2.drewN n).bk
theorem Bk.drew {w:ϖ} {B:Nat} {cs:Array ϗ} {t:TypeId} (h:Bk w B cs t):Bk w.drew B cs t:=h.2.2.drew.bk
theorem Bk.alloc_old {w:ϖ} {B:Nat} {cs:Array ϗ} {t:TypeId} (h:Bk w B cs t)(o:Obj):Bk (w.alloc o) B cs t:=(h.2.2.alloc_old o).bk
theorem Bk.set_other {w:ϖ} {B:Nat} {cs:Array ϗ} {t:TypeId} (h:Bk w B cs t) {a:Addr} (ha:B≠a.block)(v:ϗ):Bk (w.setCell a v) B cs t:=(h.2.2.set_other ha v).bk
theorem Zv {W w':ϖ} {B:Nat} {cs:Array ϗ} {t:TypeId} (hb:Below W.heap.size W w')(r:ah W B cs t:=by (repeat' (first|(with_reducible (first|assumption|exact ah.alloc_new _ _ _ (by first|rfl|(simp;done)|omega)|apply ah.drewN|apply ah.drew|apply ah.alloc_old|apply ah.set_same|apply ah.set_other))|(show (_:Nat)≠_;first|omega|(simp;done)|(simp;omega))|((simp only[List.setIfInBounds_toArray,List.set_cons_succ,List.set_cons_zero]);(with_reducible exact rfl))|(with_reducible exact rfl)|(show (_:Array ϗ)=_;exact rfl)))):ah w' B cs t:=r.below hb r.size
theorem Tg {W w':ϖ} (w:ϖ)(hb:Below W.heap.size W w')(r:Below w.heap.size w W:=by (repeat' (first|(with_reducible (first|exact Below.refl _ _|assumption|refine below_drewN ?_ _|refine Below.drew ?_|refine Below.alloc ?_ ?_ _|refine Below.setCell ?_ ?_ _))|go_size))):Below w.heap.size w w':=r.trans (hb.mono r.size)
theorem dt (p:Prop) [Decidable p] (h:p:=by omega):decide p=true:=ZT h
theorem df (p:Prop) [Decidable p] (h:¬p:=by omega):decide p=false:=ZF h
theorem Nq {α:Sort _} (a:α):∃b,a=b:=⟨_,rfl⟩
theorem HF {P0 P1 P2 P3 P4 P5 P6 P7 P8 G:Prop} (h:Hid P0->Hid P1->Hid P2->Hid P3->Hid P4->Hid P5->Hid P6->Hid P7->Hid P8->G):P0->P1->P2->P3->P4->P5->P6->P7->P8->G:=h
section
variable {A:Prop} {w W:ϖ} {B:ϖ->Prop} [Mv A w B]
theorem Zw {p:Program} {c:Code} {Q:Exit->Act->ϖ->Prop} {a:Act} (h:A)(k:∀v,B v->c.wp p Q a v)(r:Below w.heap.size w W:=by (repeat' (first|(with_reducible (first|exact Below.refl _ _|assumption|refine below_drewN ?_ _|refine Below.drew ?_|refine Below.alloc ?_ ?_ _|refine Below.setCell ?_ ?_ _))|go_size))):c.wp p Q a W:=k W (Mv.m r h)
theorem Zc {p:Program} {f:FuncId} {s:Array ϗ} {Q:Ending->ϖ->Prop} (h:A)(k:∀v,B v->Calls p f s v Q)(r:Below w.heap.size w W:=by (repeat' (first|(with_reducible (first|exact Below.refl _ _|assumption|refine below_drewN ?_ _|refine Below.drew ?_|refine Below.alloc ?_ ?_ _|refine Below.setCell ?_ ?_ _))|go_size))):Calls p f s W Q:=k W (Mv.m r h)
theorem Zb {p:Program} {f:Func} {Q:Ending->ϖ->Prop} {x:Exit} {a:Act} (h:A)(k:∀v,B v->bodyPost p f Q x a v)(r:Below w.heap.size w W:=by (repeat' (first|(with_reducible (first|exact Below.refl _ _|assumption|refine below_drewN ?_ _|refine Below.drew ?_|refine Below.alloc ?_ ?_ _|refine Below.setCell ?_ ?_ _))|go_size))):bodyPost p f Q x a W:=k W (Mv.m r h)
theorem Jw {p:Program} {c:Code} {Q:Exit->Act->ϖ->Prop} {a:Act} (h:A)(C:ϖ->Prop)(n:C W)(k:∀v,C v->B v->c.wp p Q a v)(r:Below w.heap.size w W:=by (repeat' (first|(with_reducible (first|exact Below.refl _ _|assumption|refine below_drewN ?_ _|refine Below.drew ?_|refine Below.alloc ?_ ?_ _|refine Below.setCell ?_ ?_ _))|go_size))):c.wp p Q a W:=k W n (Mv.m r h)
theorem Jc {p:Program} {f:FuncId} {s:Array ϗ} {Q:Ending->ϖ->Prop} (h:A)(C:ϖ->Prop)(n:C W)(k:∀v,C v->B v->Calls p f s v Q)(r:Below w.heap.size w W:=by (repeat' (first|(with_reducible (first|exact Below.refl _ _|assumption|refine below_drewN ?_ _|refine Below.drew ?_|refine Below.alloc ?_ ?_ _|refine Below.setCell ?_ ?_ _))|go_size))):Calls p f s W Q:=k W n (Mv.m r h)
theorem Jb {p:Program} {f:Func} {Q:Ending->ϖ->Prop} {x:Exit} {a:Act} (h:A)(C:ϖ->Prop)(n:C W)(k:∀v,C v->B v->bodyPost p f Q x a v)(r:Below w.heap.size w W:=by (repeat' (first|(with_reducible (first|exact Below.refl _ _|assumption|refine below_drewN ?_ _|refine Below.drew ?_|refine Below.alloc ?_ ?_ _|refine Below.setCell ?_ ?_ _))|go_size))):bodyPost p f Q x a W:=k W n (Mv.m r h)
theorem Zq {p:Program} {IA:Array Oper} {C:ϖ->Prop} {Q:Act->ϖ->Prop} {a:Act} (h:A)(k:∀v,B v->Q a v):wpQuiet p IA C (λa'=>∀w',(∃q:Regrown,w'=grow (redrawn w q.d) q.os)->Q a' w') [] a:=
  wpQuiet_nil λ_ ⟨q,e⟩=>e ▸ k _ (Mv.m (ZW w q.d q.os) h)
end
theorem Wq {P:Program} {id:Nat} {Q:Exit->Act->ϖ->Prop} {a:Act} {w:ϖ} {l:List Oper} (h:wpQuiet P l.toArray (λw'=>∃p:Regrown,w'=grow (redrawn w p.d) p.os) (λa'=>∀w',(∃p:Regrown,w'=grow (redrawn w p.d) p.os)->Q .normal a' w') l a)(hm:P.follows .mixedOrders=true:=by kernel_rfl)(hB:Region.lexB .any l.toArray=true:=by kernel_rfl):(Code.region id l.toArray true).wp P Q a w:=wp_region_quiet_below hm hB h
theorem Ws {P:Program} {id:Nat} {Q:Exit->Act->ϖ->Prop} {a:Act} {w:ϖ} {l:List Oper} (n:Nat)(h:wpQuiet P l.toArray (λw'=>∃p:Regrown,w'=grow (redrawn w p.d) p.os) (λa'=>∀w',(∃p:Regrown,w'=grow (redrawn w p.d) p.os)->wpList P l.toArray Q (l.drop n) a' w') (l.take n) a)(hm:P.follows .mixedOrders=true:=by kernel_rfl)(hB:uj .any l.toArray n=true:=by kernel_rfl):(Code.region id l.toArray true).wp P Q a w:=iA n hm hB h
theorem gX {p:Program} {c:Code} {Q:Exit->Act->ϖ->Prop} {a:Act} {W:ϖ} {A:ϖ->Prop} (w:ϖ)(F:Nat->Prop)(C:ϖ->Prop)(hC:C W)(h:∀v,KO F w v->A v)(k:∀v,C v->A v->c.wp p Q a v)(r:KO F w W:=by (repeat' (first|(with_reducible (first|exact KO.refl _ _|assumption|refine KO.drewN ?_ _|refine KO.drew ?_|refine KO.alloc ?_ _|refine KO.setCell ?_ ?_ _))|(intro _;first|rfl|assumption|(simp;done))))):c.wp p Q a W:=k W hC (h W r)
theorem yO {p:Program} {f:FuncId} {s:Array ϗ} {Q:Ending->ϖ->Prop} {W:ϖ} {A:ϖ->Prop} (w:ϖ)(F:Nat->Prop)(C:ϖ->Prop)(hC:C W)(h:∀v,KO F w v->A v)(k:∀v,C v->A v->Calls p f s v Q)(r:KO F w W:=by (repeat' (first|(with_reducible (first|exact KO.refl _ _|assumption|refine KO.drewN ?_ _|refine KO.drew ?_|refine KO.alloc ?_ _|refine KO.setCell ?_ ?_ _))|(intro _;first|rfl|assumption|(simp;done))))):Calls p f s W Q:=k W hC (h W r)
theorem FP {p:Program} {c:Code} {Q:Exit->Act->ϖ->Prop} {n:Nat} {a:Act} {W:ϖ} {A:ϖ->Prop} (w:ϖ)(F:Nat->Prop)(C:ϖ->Prop)(hC:C W)(h:∀v,KO F w v->A v)(k:∀v,C v->A v->Code.rounds p c Q n a v)(r:KO F w W:=by (repeat' (first|(with_reducible (first|exact KO.refl _ _|assumption|refine KO.drewN ?_ _|refine KO.drew ?_|refine KO.alloc ?_ _|refine KO.setCell ?_ ?_ _))|(intro _;first|rfl|assumption|(simp;done))))):Code.rounds p c Q n a W:=k W hC (h W r)
theorem eu {p:Program} {f:Func} {Q:Ending->ϖ->Prop} {x:Exit} {a:Act} {W:ϖ} {A:ϖ->Prop} (w:ϖ)(F:Nat->Prop)(C:ϖ->Prop)(hC:C W)(h:∀v,KO F w v->A v)(k:∀v,C v->A v->bodyPost p f Q x a v)(r:KO F w W:=by (repeat' (first|(with_reducible (first|exact KO.refl _ _|assumption|refine KO.drewN ?_ _|refine KO.drew ?_|refine KO.alloc ?_ _|refine KO.setCell ?_ ?_ _))|(intro _;first|rfl|assumption|(simp;done))))):bodyPost p f Q x a W:=k W hC (h W r)
theorem Eb {p:Program} {fn:Func} {a:Act} {w W:ϖ} {R:ϗ} (B:Nat)(cs:Array ϗ)(t:TypeId)(he:Ending.returned (φ cs)=ϰ R)(hr:∀v,(∀i,v.cell? ⟨B,i,none⟩=cs[i]?)->(results fn a.tmps).run p v=.ok (φ cs) v)(hB:ah W B cs t:=by (repeat' (first|(with_reducible (first|assumption|exact ah.alloc_new _ _ _ (by first|rfl|(simp;done)|omega)|apply ah.drewN|apply ah.drew|apply ah.alloc_old|apply ah.set_same|apply ah.set_other))|(show (_:Nat)≠_;first|omega|(simp;done)|(simp;omega))|((simp only[List.setIfInBounds_toArray,List.set_cons_succ,List.set_cons_zero]);(with_reducible exact rfl))|(with_reducible exact rfl)|(show (_:Array ϗ)=_;exact rfl))))(g:Below w.heap.size w W:=by (repeat' (first|(with_reducible (first|exact Below.refl _ _|assumption|refine below_drewN ?_ _|refine Below.drew ?_|refine Below.alloc ?_ ?_ _|refine Below.setCell ?_ ?_ _))|go_size)))(hd:a.defers=[]:=by rfl):bodyPost p fn (λe w'=>e=ϰ R/\Below w.heap.size w w') .ret a W:=ZO (hr W hB.cell) hd ⟨he,g⟩
class Mr (A:Prop) (w:outParam ϖ) (B R:outParam (ϖ->Prop)):Prop where
  m:∀{v:ϖ},Below w.heap.size w v->A->B v/\R v
instance {A A':Prop} {B B' R R':ϖ->Prop} {w:ϖ} [Mr A w B R] [Mr A' w B' R']:Mr (A/\A') w (λv=>B v/\B' v) (λv=>R v/\R' v):=⟨λk h=>⟨⟨(Mr.m k h.1).1,(Mr.m k h.2).1⟩,(Mr.m k h.1).2,(Mr.m k h.2).2⟩⟩
instance {w:ϖ} {b:Nat} {c:Array ϗ} {t:TypeId}:Mr (ah w b c t) w (λv=>ah v b c t) (λv=>(∀i,v.cell? ⟨b,i,none⟩=c[i]?)/\(∀i,v.frozen? ⟨b,i,none⟩=false)/\b<v.heap.size):=⟨λk h=>⟨h.below k h.size,(h.below k h.size).r⟩⟩
instance (priority:=90) {A:Prop} {w:ϖ} {B:ϖ->Prop} [Mv A w B]:Mr A w B (λ_=>True):=⟨λk h=>⟨Mv.m k h,trivial⟩⟩
theorem Mx {A:Prop} {B R:ϖ->Prop} {w v:ϖ} [Mr A w B R] (k:Below w.heap.size w v)(h:A):B v/\R v:=Mr.m k h
section
variable {A:Prop} {w W:ϖ} {B R:ϖ->Prop} [Mr A w B R]
theorem bS {p:Program} {c:Code} {Q:Exit->Act->ϖ->Prop} {a:Act} (h:A)(k:∀v,B v->R v->c.wp p Q a v)(r:Below w.heap.size w W:=by (repeat' (first|(with_reducible (first|exact Below.refl _ _|assumption|refine below_drewN ?_ _|refine Below.drew ?_|refine Below.alloc ?_ ?_ _|refine Below.setCell ?_ ?_ _))|go_size))):c.wp p Q a W:=k W (Mr.m r h).1 (Mr.m r h).2
theorem jf {p:Program} {c:Code} {Q:Exit->Act->ϖ->Prop} {a:Act} (h:A)(C:ϖ->Prop)(hC:C W)(k:∀v,C v->B v->R v->c.wp p Q a v)(r:Below w.heap.size w W:=by (repeat' (first|(with_reducible (first|exact Below.refl _ _|assumption|refine below_drewN ?_ _|refine Below.drew ?_|refine Below.alloc ?_ ?_ _|refine Below.setCell ?_ ?_ _))|go_size))):c.wp p Q a W:=k W hC (Mr.m r h).1 (Mr.m r h).2
theorem kL {p:Program} {f:FuncId} {s:Array ϗ} {Q:Ending->ϖ->Prop} (h:A)(k:∀v,B v->R v->Calls p f s v Q)(r:Below w.heap.size w W:=by (repeat' (first|(with_reducible (first|exact Below.refl _ _|assumption|refine below_drewN ?_ _|refine Below.drew ?_|refine Below.alloc ?_ ?_ _|refine Below.setCell ?_ ?_ _))|go_size))):Calls p f s W Q:=k W (Mr.m r h).1 (Mr.m r h).2
theorem mL {p:Program} {f:FuncId} {s:Array ϗ} {Q:Ending->ϖ->Prop} (h:A)(C:ϖ->Prop)(hC:C W)(k:∀v,C v->B v->R v->Calls p f s v Q)(r:Below w.heap.size w W:=by (repeat' (first|(with_reducible (first|exact Below.refl _ _|assumption|refine below_drewN ?_ _|refine Below.drew ?_|refine Below.alloc ?_ ?_ _|refine Below.setCell ?_ ?_ _))|go_size))):Calls p f s W Q:=k W hC (Mr.m r h).1 (Mr.m r h).2
theorem Hd {p:Program} {f:Func} {Q:Ending->ϖ->Prop} {x:Exit} {a:Act} (h:A)(C:ϖ->Prop)(hC:C W)(k:∀v,C v->B v->R v->bodyPost p f Q x a v)(r:Below w.heap.size w W:=by (repeat' (first|(with_reducible (first|exact Below.refl _ _|assumption|refine below_drewN ?_ _|refine Below.drew ?_|refine Below.alloc ?_ ?_ _|refine Below.setCell ?_ ?_ _))|go_size))):bodyPost p f Q x a W:=k W hC (Mr.m r h).1 (Mr.m r h).2
theorem bF {p:Program} {IA:Array Oper} {C:ϖ->Prop} {Q:Act->ϖ->Prop} {a:Act} (h:A)(k:∀v,B v->R v->Q a v):wpQuiet p IA C (λa'=>∀w',(∃q:Regrown,w'=grow (redrawn w q.d) q.os)->Q a' w') [] a:=
  wpQuiet_nil λ_ ⟨q,e⟩=>e ▸ k _ (Mr.m (ZW w q.d q.os) h).1 (Mr.m (ZW w q.d q.os) h).2
end
theorem mw {G H:Prop} (h:H)(f:PLift H->G:=by intro h;simp only[List.take_succ_cons,List.take_zero,List.drop_succ_cons,List.drop_zero];exact h.down):G:=f ⟨h⟩
theorem pe {G H:Prop} (h:H)(f:PLift H->G:=by intro h;(repeat (go_big_quiet_step (fail)));exact h.down):G:=f ⟨h⟩
theorem gw {G H:Prop} (h:H)(f:PLift H->G:=by intro h;simp only[List.take_succ_cons,List.take_zero,List.drop_succ_cons,List.drop_zero];(repeat (go_big_quiet_step (fail)));exact h.down):G:=f ⟨h⟩
theorem Xb {W w':ϖ} {B:Nat} {cs:Array ϗ} {t:TypeId} (hb:Below W.heap.size W w')(r:ah W B cs t:=by first|exact ah.alloc_new _ _ _ rfl|exact ah.drew (ah.alloc_new _ _ _ rfl)|exact hX|exact hX.drew):ah w' B cs t:=r.below hb r.size
theorem bo {G H:Prop} (h:H)(f:PLift H->G:=by intro Zz;rintro e w' ⟨rfl,f'⟩;have IZ:=Tg w f';have IY:=f'.size;(try simp at IY);revert IY IZ f' w';exact Zz.down):G:=f ⟨h⟩
theorem ρB {p:Prop} (h:p:=by (repeat' (first|(with_reducible (first|assumption|exact ah.alloc_new _ _ _ (by first|rfl|(simp; done)|omega)|apply ah.drewN|apply ah.drew|apply ah.alloc_old|apply ah.set_same|apply ah.set_other))|(show (_ : Nat) ≠ _; first|omega|(simp; done)|(simp; omega))|((simp only [List.setIfInBounds_toArray, List.set_cons_succ, List.set_cons_zero]); (with_reducible exact rfl))|(with_reducible exact rfl)|(show (_ : Array ϗ) = _; exact rfl)))):p:=h
theorem ρE {p:Prop} (h:p:=by (repeat' (first|(with_reducible (first|exact Below.refl _ _|assumption|refine below_drewN ?_ _|refine Below.drew ?_|refine Below.alloc ?_ ?_ _|refine Below.setCell ?_ ?_ _))|go_size))):p:=h
theorem ρK {p:Prop} (h:p:=by (repeat' (first|(with_reducible (first|exact KO.refl _ _|assumption|refine KO.drewN ?_ _|refine KO.drew ?_|refine KO.alloc ?_ _|refine KO.setCell ?_ ?_ _))|(intro _; first|rfl|assumption|(simp; done))))):p:=h
theorem ρH {p:Prop} (h:p:=by (go_split_ands;repeat' first|(with_reducible assumption)|((with_reducible refine ah.bk ?_);(with_reducible assumption))|((with_reducible apply ah.tb);(with_reducible assumption);(with_reducible exact f');(repeat' (first|(with_reducible (first|exact Below.refl _ _|assumption|refine below_drewN ?_ _|refine Below.drew ?_|refine Below.alloc ?_ ?_ _|refine Below.setCell ?_ ?_ _))|go_size));done)|((with_reducible refine ah.bk ?_);(repeat' (first|(with_reducible (first|assumption|exact ah.alloc_new _ _ _ (by first|rfl|(simp; done)|omega)|apply ah.drewN|apply ah.drew|apply ah.alloc_old|apply ah.set_same|apply ah.set_other))|(show (_ : Nat) ≠ _; first|omega|(simp; done)|(simp; omega))|((simp only [List.setIfInBounds_toArray, List.set_cons_succ, List.set_cons_zero]); (with_reducible exact rfl))|(with_reducible exact rfl)|(show (_ : Array ϗ) = _; exact rfl)));done)|((with_reducible apply ah.re);(with_reducible assumption);omega)|(with_reducible refine And.intro ?_ ?_)|((repeat' (first|(with_reducible (first|exact Below.refl _ _|assumption|refine below_drewN ?_ _|refine Below.drew ?_|refine Below.alloc ?_ ?_ _|refine Below.setCell ?_ ?_ _))|go_size));done)|((refine Below.trans ?_ (Below.mono f' ?_)<;>(repeat' (first|(with_reducible (first|exact Below.refl _ _|assumption|refine below_drewN ?_ _|refine Below.drew ?_|refine Below.alloc ?_ ?_ _|refine Below.setCell ?_ ?_ _))|go_size)));done)|omega|(go_simp;done)|(simp;done))):p:=h
theorem ρa {p:Prop} (h:p:=by omega):p:=h
theorem ρb {p:Prop} (h:p:=by first|(simp;done)|omega|(simp;omega)):p:=h
theorem ρc {p:Prop} (h:p:=by intro x hx h;first|exact h|exact .inl h|exact .inr h|(simp only[] at h ⊢;first|exact h|(simp[h];done)|omega)|(exfalso;(try dsimp only at h);omega)|(subst h;simp;done)|(simp at h ⊢;first|exact h|(simp[h];done)|omega)|(simp_all;done)):p:=h
theorem ρd {p:Prop} (h:p:=by have ap:=Km.out;(try simp only[PT.bs,ZC,ZM]);grind):p:=h
theorem ρe {p:Prop} (h:p:=by first|assumption|(go_simp;done)|(simp;done)):p:=h
theorem ρf {p:Prop} (h:p:=by decide):p:=h
theorem ρg {p:Prop} (h:p:=by simpa using g):p:=h
theorem ρh {p:Prop} (h:p:=by kernel_rfl):p:=h
theorem ρi {p:Prop} (h:p:=by intro h;(try dsimp only at h);rcases h with h|h;omega;first|exact RT _ h rfl|exact Rc _ h rfl|(have:=zb _ h;omega)):p:=h
theorem ρj {p:Prop} (h:p:=by intro h;(try dsimp only at h);omega):p:=h
theorem ρk {p:Prop} (h:p:=by intro e;(try dsimp only at e);first|omega|(rw[e,NU] at Od;cases Od)|(rw[<- e,NU] at Od;cases Od)|(rw[e,SI] at Od;cases Od)|(rw[<- e,SI] at Od;cases Od)|(rw[e,SI] at NU;cases NU)|(rw[<- e,SI] at NU;cases NU)):p:=h
theorem ρl {p:Prop} (h:p:=by intro y hy h;(try dsimp only at h);first|exact h|(rcases h with h|h;subst h;exact fR;subst h;exact fS)|(subst h;first|exact fB|exact fR|exact fS)|(exfalso;omega)):p:=h
theorem ρm {p:Prop} (h:p:=by exact λ_=>by kernel_rfl):p:=h
theorem ρn {p:Prop} (h:p:=by intro x hx h;(try simp only[PT.bs,ZC,ZM] at h);(try simp only[PT.bs,ZC,ZM]);(try dsimp only at h);grind):p:=h
theorem ρo {p:Prop} (h:p:=by simp at IK;omega):p:=h
theorem ρp {p:Prop} (h:p:=by simp):p:=h
theorem ρq {p:Prop} (h:p:=by have hb:=U7.1;repeat' (first|exact U7.us|(refine US.set ?_ _ (hb _))|refine US.drewN ?_ _|refine US.drew ?_)):p:=h
theorem ρr {p:Prop} (h:p:=by rfl):p:=h
theorem ρs {p:Prop} (h:p:=by intro x hx h;have ap:=Km.out;(try simp only[PT.bs,ZC,ZM] at hx);grind):p:=h
theorem ρt {p:Prop} (h:p:=by intro h;(try dsimp only at h);first|(rw[h,Qm] at oS5;cases oS5)|exact nby h|exact nR5 h|exact nP5 h):p:=h
theorem ρu {p:Prop} (h:p:=by obtain⟨_,_,_,_,h,_⟩:=G;exact h):p:=h
theorem ρv {p:Prop} (h:p:=by have h0:aV 0=0:=rfl;have h1:bX 0=0:=rfl;have h2:gV 0=0:=rfl;have h3:iY 0=0:=rfl;rw[h0,h1,h2,h3];(repeat' (first|(with_reducible (first|assumption|exact ah.alloc_new _ _ _ (by first|rfl|(simp;done)|omega)|apply ah.drewN|apply ah.drew|apply ah.alloc_old|apply ah.set_same|apply ah.set_other))|(show (_:Nat)≠_;first|omega|(simp;done)|(simp;omega))|((simp only[List.setIfInBounds_toArray,List.set_cons_succ,List.set_cons_zero]);(with_reducible exact rfl))|(with_reducible exact rfl)|(show (_:Array ϗ)=_;exact rfl)))):p:=h
theorem ρw {p:Prop} (h:p:=by show some (Value.int .i64 (s.e i).c.id)=_;rw[MN.out]):p:=h
theorem ρx {p:Prop} (h:p:=by unfold ai;omega):p:=h
theorem ρy {p:Prop} (h:p:=by rw[<- hn,IF,ZL]):p:=h
theorem ρz {p:Prop} (h:p:=by intro e;(try dsimp only at e);first|omega|exact H9 e|exact H9 e.symm|(rw[e] at nG;exact nG rfl)|exact nG e|exact nG2 e):p:=h
theorem ρC {p:Prop} (h:p:=by exact λx hx e=>by omega):p:=h
theorem ρF {p:Prop} (h:p:=by rw[IF,<- hq];simp):p:=h
theorem ρI {p:Prop} (h:p:=by exact λ_ _ h=>by simp at h;subst h;rfl):p:=h
theorem ρJ {p:Prop} (h:p:=by simp;omega):p:=h
theorem ρL {p:Prop} (h:p:=by intro j u hj;(iterate 22 (rcases j with _|j;(exact hj)));cases hj):p:=h
theorem ρM {p:Prop} (h:p:=by intro x hx e;(try dsimp only at e);show TG.mine _;rw[e];first|(rw[oS];simp[TG.mine])|(rw[SH];simp[TG.mine])|(rw[SJ];simp[TG.mine])):p:=h
theorem ρN {p:Prop} (h:p:=by rw[IF,ZA]):p:=h
theorem ρO {p:Prop} (h:p:=by intro x hx h;(try dsimp only at h);(try simp only[PT.bs,ZC,ZM]);grind):p:=h
theorem ρP {p:Prop} (h:p:=by simp only[];omega):p:=h
theorem ρQ {p:Prop} (h:p:=by show some (Value.int .i64 (s5.e x).c.par)=_;rw[Sv.out]):p:=h
theorem ρR {p:Prop} (h:p:=by rw[IF];simp):p:=h
theorem ρS {p:Prop} (h:p:=by show some (Value.int .u64 (s5.e x).tot)=_;rw[QV.out]):p:=h
theorem ρT {p:Prop} (h:p:=by rw[<- hs.out,Mg.out,ZI (of_decide_eq_false hz),Int.zero_add]):p:=h
theorem ρU {p:Prop} (h:p:=by rw[ht.out];try rfl):p:=h
theorem ρV {p:Prop} (h:p:=by intro x hx h;have ap:=Km.out;(try simp only[PT.bs,ZC,ZM] at hx);(try simp only[PT.bs,ZC,ZM] at h);(try dsimp only at h);grind):p:=h
theorem ρW {p:Prop} (h:p:=by rw[JF.out];try rfl):p:=h
theorem ρX {p:Prop} (h:p:=by intro e;(try dsimp only at e);first|omega|(rw[e,Pu] at Ol;cases Ol)|(rw[<- e,Pu] at Ol;cases Ol)|(rw[e,Ty] at Ol;cases Ol)|(rw[<- e,Ty] at Ol;cases Ol)|(rw[e,Ty] at Pu;cases Pu)|(rw[<- e,Ty] at Pu;cases Pu)):p:=h
theorem ρY {p:Prop} (h:p:=by intro h;first|omega|(simp at h;done)|(simp at h;omega)|(exact ax h (by assumption))|(simp at h;exact ax h (by assumption))|(simp_all;done)):p:=h
theorem ρZ {p:Prop} (h:p:=by intro h;(try dsimp only at h);first|(rw[h,Qm] at oS5;cases oS5)|exact nby h|exact nkm h):p:=h
theorem ρ0 {p:Prop} (h:p:=by have hb:=U0.1;repeat' (first|exact U0.us|(refine US.set ?_ _ (hb _))|refine US.drewN ?_ _|refine US.drew ?_)):p:=h
theorem ρ1 {p:Prop} (h:p:=by intro j u hj;(iterate 14 (rcases j with _|j;(exact hj)));cases hj):p:=h
theorem ρ2 {p:Prop} (h:p:=by intro x hx h;(try dsimp only at h);rcases h with rfl|h;exact fb.2.1;exact fb.2.2.2 x h):p:=h
theorem ρ3 {p:Prop} (h:p:=by rw[<- e1,<- e2];simp only[PT.high,PT.bare,AT.high];omega):p:=h
theorem ρ4 {p:Prop} (h:p:=by first|rfl|(simp;done)|omega):p:=h
theorem ρ5 {p:Prop} (h:p:=by exact λb i _ hb e=>by (try dsimp only at e);first|(rw[e,Od] at hb;rcases hb with hb|hb<;>cases hb)|(rw[e,NU] at hb;rcases hb with hb|hb<;>cases hb)|(rw[e,SI] at hb;rcases hb with hb|hb<;>cases hb)):p:=h
theorem ρ6 {p:Prop} (h:p:=by intro x hx h;have ap:=Km.out;have hN:=hNh.out;(try simp only[PT.bs,ZC,ZM] at hx);(try dsimp only at h);grind):p:=h
theorem ρ7 {p:Prop} (h:p:=by rw[ZN];omega):p:=h
theorem ρ8 {p:Prop} (h:p:=by exact λe=>by (try dsimp only at e);omega):p:=h
theorem ρ9 {p:Prop} (h:p:=by rw[Ds,hnL.out]):p:=h
theorem σa {p:Prop} (h:p:=by rw[<- hq];exact iS hp):p:=h
theorem σb {p:Prop} (h:p:=by intro j u hj;(iterate 11 (rcases j with _|j;(exact hj)));cases hj):p:=h
theorem σc {p:Prop} (h:p:=by intro h;have ap:=Km.out;have hN:=hNh.out;(try dsimp only at h);grind):p:=h
theorem σd {p:Prop} (h:p:=by intro x hx h;have ap:=Km.out;(try simp only[PT.bs,ZC,ZM] at hx);(try dsimp only at h);grind):p:=h
theorem σe {p:Prop} (h:p:=by have hb:=U5.1;repeat' (first|exact U5.us|(refine US.set ?_ _ (hb _))|refine US.drewN ?_ _|refine US.drew ?_)):p:=h
theorem σf {p:Prop} (h:p:=by exact λ_ kx=>θ4 (Iz.trans kx ρc) (A2.ko kx (by intro x hx h;rcases h with h|h<;>first|exact ba (h ▸ hx)|exact ca (h ▸ hx))) (D2.ko kx (by intro x hx h;rcases h with h|h<;>first|exact bd (h ▸ hx)|exact cd (h ▸ hx))) (R2.ko kx (by intro x hx h;rcases h with h|h<;>first|exact br (h ▸ hx)|exact cr (h ▸ hx)))):p:=h
theorem σg {p:Prop} (h:p:=by simp[Value.oneCell']):p:=h
theorem σh {p:Prop} (h:p:=by intro x hx h;exact h):p:=h
theorem σi {p:Prop} (h:p:=by exact λz _ hz e=>ae.ne_blk XG XB ρf (by (try dsimp only at e);rw[<- e];exact hz)):p:=h
theorem σj {p:Prop} (h:p:=by intro x hx h;(try dsimp only at h);(try simp only[PT.bs,ZC,ZM] at h);(try simp only[PT.bs,ZC,ZM]);grind):p:=h
theorem σk {p:Prop} (h:p:=by obtain⟨_,_,_,_,h,_⟩:=G0;exact h):p:=h
theorem σl {p:Prop} (h:p:=by intro h;(try dsimp only at h);first|exact hT h|(have:=IJ _ h;omega)):p:=h
theorem σm {p:Prop} (h:p:=by rw[Jj.out,MN.out]):p:=h
theorem σn {p:Prop} (h:p:=by exact λx _ hx e=>by have:=Pw x hx;rw[e,qR] at this;cases this):p:=h
theorem σo {p:Prop} (h:p:=by simp[results,Tryz.results26,go_sem,Kd]):p:=h
theorem σp {p:Prop} (h:p:=by intro y hy h;(try dsimp only at h);first|exact .inl h|exact .inr h|(rcases h with h|h;exact .inl h;exact .inr h)|(exfalso;omega)):p:=h
theorem σq {p:Prop} (h:p:=by exact λx hx e=>by rw[e] at hx;omega):p:=h
theorem σr {p:Prop} (h:p:=by exact λb i _ hb e=>by (try dsimp only at e);first|(rw[e,Od] at hb;cases hb)|(rw[e,NU] at hb;cases hb)|(rw[e,SI] at hb;cases hb)):p:=h
theorem σs {p:Prop} (h:p:=by exact λb hb e=>by (try dsimp only at e);first|(rw[e,Od] at hb;cases hb)|(rw[e,NU] at hb;cases hb)|(rw[e,SI] at hb;cases hb)):p:=h
theorem σt {p:Prop} (h:p:=by intro y hy h;exact ax h (ae.notown H1 ρa)):p:=h
theorem σu {p:Prop} (h:p:=by rw[J9];show (if _ then _ else _)=_;rw[ZI ρa,ZP rfl]):p:=h
theorem σv {p:Prop} (h:p:=by rw[OJ.out]):p:=h
theorem σw {p:Prop} (h:p:=by intro x hx e;(try dsimp only at e);omega):p:=h
theorem σx {p:Prop} (h:p:=by rw[<- hp];exact⟨Int.mul_nonneg ha.1 ht.1,Int.mul_le_mul ha.2 ht.2 ht.1 ρa⟩):p:=h
theorem σy {p:Prop} (h:p:=by simp[results,Tryz.results64,go_sem,Kd]):p:=h
theorem σz {p:Prop} (h:p:=by intro x hx h;(try dsimp only at h);subst h;exact fb.2.2.1):p:=h
theorem σA {p:Prop} (h:p:=by have hb:=U4.1;repeat' (first|exact U4.us|(refine US.set ?_ _ (hb _))|refine US.drewN ?_ _|refine US.drew ?_)):p:=h
theorem σB {p:Prop} (h:p:=by intro e;(try dsimp only at e);first|(rw[e,NU] at Od;cases Od)|(rw[<- e,NU] at Od;cases Od)|(rw[e,SI] at Od;cases Od)|(rw[<- e,SI] at Od;cases Od)|(rw[e,SI] at NU;cases NU)|(rw[<- e,SI] at NU;cases NU)):p:=h
theorem σC {p:Prop} (h:p:=by intro e;(try dsimp only at e);first|(rw[e,WR] at UI;cases UI)|(rw[<- e,WR] at UI;cases UI)|(rw[e,oK1] at UI;cases UI)|(rw[<- e,oK1] at UI;cases UI)|(rw[e,oK1] at WR;cases WR)|(rw[<- e,oK1] at WR;cases WR)):p:=h
theorem σD {p:Prop} (h:p:=by intro j u hj;(iterate 3 (rcases j with _|j;(exact hj)));cases hj):p:=h
theorem σE {p:Prop} (h:p:=by intro h;(try dsimp only at h);first|exact ax h (by assumption)|exact ax h.symm (by assumption)|omega):p:=h
theorem σF {p:Prop} (h:p:=by exact λy e f=>by (try dsimp only at f);rw[f,Qm] at e;cases e):p:=h
theorem σG {p:Prop} (h:p:=by intro x hx h;have:=Rc x hx;(try dsimp only at h);omega):p:=h
theorem σH {p:Prop} (h:p:=by intro x hx f;show TG.mine _;rw[<- MS x hx,ND.out x f];simp[TG.mine]):p:=h
theorem σI {p:Prop} (h:p:=by exact λx hx _ e=>by (try dsimp only at e);omega):p:=h
theorem σJ {p:Prop} (h:p:=by rw[<- Jd,aN,List.length_mergeSort,pf];exact ZK (ZH _ _) hL):p:=h
theorem σK {p:Prop} (h:p:=by exact λu hu=>by obtain⟨x,_,hx⟩:=List.mem_flatMap.1 hu;exact h1 x u hx):p:=h
theorem σL {p:Prop} (h:p:=by simpa using h):p:=h
theorem σM {p:Prop} (h:p:=by simp[Region.wanted]):p:=h
theorem σN {p:Prop} (h:p:=by simp[results,Tryz.results66,go_sem,Kd]):p:=h
theorem σO {p:Prop} (h:p:=by exact λy hy f=>by show TG.mine _;rw[f,ob];simp[TG.mine]):p:=h
theorem σP {p:Prop} (h:p:=by intro y hy h;exact ax h (ae.notown J4 ρa)):p:=h
theorem σQ {p:Prop} (h:p:=by intro x hx h;exact br (h ▸ hx)):p:=h
theorem σR {p:Prop} (h:p:=by simp[results,Tryz.results30,go_sem,cR]):p:=h
theorem σS {p:Prop} (h:p:=by intro y hy h;exact ax h (ae.notown H5 hy)):p:=h
theorem σT {p:Prop} (h:p:=by exact λy hy e=>by omega):p:=h
theorem σU {p:Prop} (h:p:=by exact λx hx hm=>by have:=ho x hm;rw[Pt.more_lt this.1] at hx;omega):p:=h
theorem σV {p:Prop} (h:p:=by rw[JK.out]):p:=h
theorem σW {p:Prop} (h:p:=by simp only[PT.many] at*;omega):p:=h
theorem σX {p:Prop} (h:p:=by rw[<- e3,<- e4];simp only[PT.high,PT.bare,AT.high];omega):p:=h
theorem σY {p:Prop} (h:p:=by have:=QQ.out;have:=Wo.out;omega):p:=h
theorem σZ {p:Prop} (h:p:=by have:=S1.out;simp only[PT.many] at*;omega):p:=h
theorem σ0 {p:Prop} (h:p:=by exact λx hx=>by rw[hx];exact vW λe=>by have:=(Nn _ e).2;omega):p:=h
theorem σ1 {p:Prop} (h:p:=by unfold maxLen;omega):p:=h
theorem σ2 {p:Prop} (h:p:=by show some (Value.int .u64 (s5.e x).tot)=_;rw[WF.out]):p:=h
theorem σ3 {p:Prop} (h:p:=by rw[hg.out]):p:=h
theorem σ4 {p:Prop} (h:p:=by intro r hr e;(try dsimp only at e);omega):p:=h
theorem σ5 {p:Prop} (h:p:=by exact λy hy f=>by have h1:=Pm.out y hy;(try dsimp only at f);rw[f,ob] at h1;cases h1):p:=h
theorem σ6 {p:Prop} (h:p:=by intro h;have ap:=Km.out;(try dsimp only at h);grind):p:=h
theorem σ7 {p:Prop} (h:p:=by exact λ_ cv=>(by simp[results,Tryz.results264,go_sem,cv])):p:=h
theorem σ8 {p:Prop} (h:p:=by exact λ_ cv=>(by simp[results,Tryz.results248,go_sem,cv])):p:=h
theorem σ9 {p:Prop} (h:p:=by exact λ_ cv=>(by simp[results,Tryz.results206,go_sem,cv])):p:=h
theorem τa {p:Prop} (h:p:=by exact λ_ cv=>(by simp[results,Tryz.results202,go_sem,cv])):p:=h
theorem τb {p:Prop} (h:p:=by exact λ_ cv=>(by simp[results,Tryz.results158,go_sem,cv])):p:=h
theorem τc {p:Prop} (h:p:=by exact λf=>by have:=ND.out _ f;rw[ob] at this;cases this):p:=h
theorem τd {p:Prop} (h:p:=by exact λ_ cv=>(by simp[results,Tryz.results36,go_sem,cv])):p:=h
theorem τe {p:Prop} (h:p:=by rw[<- hn.out,IF,ZL]):p:=h
theorem τf {p:Prop} (h:p:=by have:=dk.count fi o hi;simp only[PT.many];omega):p:=h
theorem τg {p:Prop} (h:p:=by exact Int.le_of_lt (Int.pow_pos ρa)):p:=h
theorem τh {p:Prop} (h:p:=by exact λx e=>by rw[e];exact .inl qR):p:=h
theorem τi {p:Prop} (h:p:=by subst hp;exact⟨Int.mul_nonneg ρa ρa,by have:=Int.mul_le_mul (show s<=288230376151711744 by omega) (show t<=65536 by omega) ρa ρa;omega⟩):p:=h
theorem τj {p:Prop} (h:p:=by simp[results,Tryz.results50,go_sem]):p:=h
theorem τk {p:Prop} (h:p:=by simpa using hi):p:=h
theorem τl {p:Prop} (h:p:=by rw[IntKind.wrap_u64];omega):p:=h
theorem τm {p:Prop} (h:p:=by have:=z1.out;omega):p:=h
theorem τn {p:Prop} (h:p:=by rw[<- Ka];exact Wf.of_same W rfl W.ec (λ_ _ h=>h) (λ_ h=>h)):p:=h
theorem τo {p:Prop} (h:p:=by exact λy hy=>.inl (by rw[hy];exact ob)):p:=h
theorem τp {p:Prop} (h:p:=by intro x hx h;exact bl (h ▸ hx)):p:=h
theorem τq {p:Prop} (h:p:=by rw[Sq];simp[putS,c1,c2]):p:=h
theorem τr {p:Prop} (h:p:=by exact λx hx hh e=>by (try dsimp only at e);omega):p:=h
theorem τs {p:Prop} (h:p:=by exact λc Jj=>hc x0 (by rw[XK.out];simp) c Jj):p:=h
theorem τt {p:Prop} (h:p:=by simp[results,Tryz.results129,go_sem,rR.1]):p:=h
theorem τu {p:Prop} (h:p:=by rw[Nat.mul_one] at b0;exact b0):p:=h
theorem τv {p:Prop} (h:p:=by exact λd hd=>by rw[hc] at hd;cases hd;exact hs):p:=h
theorem τw {p:Prop} (h:p:=by exact λx hx e=>by (try dsimp only at e);omega):p:=h
theorem τx {p:Prop} (h:p:=by simp[results,Tryz.results45,go_sem,Kd]):p:=h
theorem τy {p:Prop} (h:p:=by intro y hy h;(try dsimp only at h);first|exact .inl h|exact .inr h|(rcases h with h|h;exact .inl h;exact .inr h)):p:=h
theorem τz {p:Prop} (h:p:=by exact λx _ e=>by rw[e];omega):p:=h
theorem τA {p:Prop} (h:p:=by rw[<- e];exact hx):p:=h
theorem τB {p:Prop} (h:p:=by first|omega|(simp;omega)):p:=h
theorem τC {p:Prop} (h:p:=by rw[List.append_assoc];exact List.Perm.append_left D (show (c::(D1++D2)).Perm (D1++c::D2) from List.perm_middle.symm)):p:=h
theorem τD {p:Prop} (h:p:=by intro y hy f;show TG.mine _;rw[Pm.out y f];simp[TG.mine]):p:=h
theorem τE {p:Prop} (h:p:=by have hb:=U2.1;repeat' (first|exact U2.us|(refine US.set ?_ _ (hb _))|refine US.drewN ?_ _|refine US.drew ?_)):p:=h
theorem τF {p:Prop} (h:p:=by exact λx hx=>by rcases h5 with h5|h5;exact .inl (hx.trans h5);exact .inr (by rw[h5] at hx;cases hx;exact ZR _)):p:=h
theorem τG {p:Prop} (h:p:=by exact λ_ _ h=>by simp at h;rcases h with rfl|rfl|rfl<;>rfl):p:=h
theorem τH {p:Prop} (h:p:=by rw[<- hz];exact ZF ρa):p:=h
theorem τI {p:Prop} (h:p:=by rw[Ph];unfold OI.clk;rw[ZI ρa]):p:=h
theorem τJ {p:Prop} (h:p:=by exact λh=>by have:=Qj _ h;omega):p:=h
theorem τK {p:Prop} (h:p:=by exact λ_ _ h=>by simp at h;rcases h with rfl|rfl|rfl|rfl|rfl|rfl|rfl|rfl|rfl|rfl|rfl|rfl<;>rfl):p:=h
theorem τL {p:Prop} (h:p:=by rw[Ja];exact ZZ _ ⟨by omega,by omega⟩):p:=h
theorem τM {p:Prop} (h:p:=by obtain⟨_,_,_,_,_,_,_,_,_,_,_,_,_,hs⟩:=h8;exact hs):p:=h
theorem τN {p:Prop} (h:p:=by first|exact Hw.out|rfl):p:=h
theorem τO {p:Prop} (h:p:=by simp[results,Tryz.results85,go_sem]):p:=h
theorem τP {p:Prop} (h:p:=by simp[results,Tryz.results76,go_sem]):p:=h
theorem τQ {p:Prop} (h:p:=by rw[decide_eq_decide];simp at*;omega):p:=h
theorem τR {p:Prop} (h:p:=by intro h;(try dsimp only at h);rw[h,ob] at oS;cases oS):p:=h
theorem τS {p:Prop} (h:p:=by exact λx hx=>⟨hxr.out x hx,ht x (by rw[XK.out];simp[hx]),by have:=(Jq x (by rw[XK.out];simp[hx])).2;omega⟩):p:=h
theorem τT {p:Prop} (h:p:=by simp[results,Tryz.results6,go_sem]):p:=h
theorem τU {p:Prop} (h:p:=by simp only[execOp];go_simp):p:=h
theorem τV {p:Prop} (h:p:=by exact λ_ cv=>(by simp[results,Tryz.results239,go_sem,cv])):p:=h
theorem τX {p:Prop} (h:p:=by simp only[IntKind.wrap_u64];omega):p:=h
theorem τY {p:Prop} (h:p:=by rw[<- hm,IF,ZL]):p:=h
theorem τZ {p:Prop} (h:p:=by exact λ_ cv=>(by simp[results,Tryz.results90,go_sem,cv])):p:=h
theorem τ0 {p:Prop} (h:p:=by rw[MN.out]):p:=h
theorem τ1 {p:Prop} (h:p:=by rw[NY];rfl):p:=h
theorem τ2 {p:Prop} (h:p:=by unfold ai at ha hb;unfold hi lo bp at*;omega):p:=h
theorem τ3 {p:Prop} (h:p:=by intro x hx h;exact bt (h ▸ hx)):p:=h
theorem τ4 {p:Prop} (h:p:=by rcases hs with ⟨_,_,_,rfl⟩|⟨_,rfl⟩<;>(intro e he;have he:e ∈ ([]:List EV):=he;cases he)):p:=h
theorem τ5 {p:Prop} (h:p:=by intro y hy h;exact ax h (ae.notown H2 hy)):p:=h
theorem τ6 {p:Prop} (h:p:=by intro y hy h;exact ax h (ae.notown H1 hy)):p:=h
theorem τ7 {p:Prop} (h:p:=by exact λx hx=>by rcases ZM.1 hx with h|h;exact Su x h;rw[ZS.1 h];omega):p:=h
theorem τ8 {p:Prop} (h:p:=by have ap:=Km.out;simp only[PT.bs,ZC,ZM] at zo;simp only[PT.Apart];grind):p:=h
theorem τ9 {p:Prop} (h:p:=by exact λx hx f=>by (try dsimp only at f);subst f;show TG.mine _;rw[H.2.2.2.2.2.2.2.2.1];simp[TG.mine]):p:=h
theorem κa {p:Prop} (h:p:=by exact λe=>by rw[e,h0] at hd;cases hd):p:=h
theorem κb {p:Prop} (h:p:=by simpa using hj):p:=h
theorem κc {p:Prop} (h:p:=by simp[PT.bare,AT.items]):p:=h
theorem κd {p:Prop} (h:p:=by rw[Mz.out];exact hmnl):p:=h
theorem κe {p:Prop} (h:p:=by rw[Int.mul_assoc]):p:=h
theorem κf {p:Prop} (h:p:=by exact λx e=>by rw[e];exact .inl pQ2):p:=h
theorem κg {p:Prop} (h:p:=by exact λc q l hq hm ho=>⟨hm.ko kk (by intro e;subst e;rw[e3] at ho;cases ho;exact hq rfl),ho⟩):p:=h
theorem κh {p:Prop} (h:p:=by rw[Int.mul_add];omega):p:=h
theorem κi {p:Prop} (h:p:=by rw[hn.out];omega):p:=h
theorem κj {p:Prop} (h:p:=by rw[e];exact this):p:=h
theorem κk {p:Prop} (h:p:=by have:(s.length+L.length)*by_<=(s.length+L.length)*1000:=Nat.mul_le_mul_left _ XO;omega):p:=h
theorem κl {p:Prop} (h:p:=by intro y hy h;exact h):p:=h
theorem κn {p:Prop} (h:p:=by intro y hy f;have h1:=hf7 y f;rw[Yf y hy] at h1;show TG.mine _;rw[h1];simp[TG.mine]):p:=h
theorem κo {p:Prop} (h:p:=by unfold hi;omega):p:=h
theorem κp {p:Prop} (h:p:=by exact λx e=>n2 x (by intro g;rw[g] at e;rcases e with e|e|e;exact e;cases e;cases e)):p:=h
theorem κq {p:Prop} (h:p:=by rw[Wt];simp;intro h;omega):p:=h
theorem κr {p:Prop} (h:p:=by have:=uq hL hunf IA.size his;omega):p:=h
theorem κs {p:Prop} (h:p:=by simp[results,Tryz.results65,go_sem,Kd]):p:=h
theorem κt {p:Prop} (h:p:=by exact λy hy f=>by have h1:=ND.out y hy;(try dsimp only at f);rw[f,ob] at h1;cases h1):p:=h
theorem κu {p:Prop} (h:p:=by exact λd hd=>hc d (by simp[hd])):p:=h
theorem κv {p:Prop} (h:p:=by exact λ_ kx=>θ2 (IN.trans kx ρc) (Q5.ko kx (by intro x hx h;exact Tm (h ▸ hx)))):p:=h
theorem κw {p:Prop} (h:p:=by simp[PT.bare,AT.items,hy]):p:=h
theorem κx {p:Prop} (h:p:=by rw[hhd.out];exact Lh.out):p:=h
theorem κy {p:Prop} (h:p:=by cases h:L.getD 6 false with|false=>rfl|true=>have:=J.d6 h;simp[LX] at this):p:=h
theorem κz {p:Prop} (h:p:=by obtain⟨_,_,_,_,h,_⟩:=Wh;exact h):p:=h
@[go_sem] abbrev bv (n:Int):Array ϗ:=#[(aV n),(bX n),(gV n),(iY n)]
@[go_sem] abbrev mi (n:Int):Array ϗ:=#[(hi n),(lo n)]
@[go_sem] abbrev fD:Array ϗ:=#[Ky,Ky,Ky,Ky]
@[go_sem] abbrev aP (a b c:Int):Array ϗ:=#[a,b,c]
@[go_sem] abbrev fU (a b c d:Int):Array ϗ:=#[a,ι ε b,c,ι ε d]
@[go_sem] abbrev gG (a b c d e f:Int):Array ϗ:=#[a,ι ε b,ι ω c,ι ω d,ι ω e,ι ω f]
@[go_sem] abbrev kE (a b:Int) (l:Bool) (c d e f g h i j k m n:Int):Array ϗ:=#[ι ε a,ι ε b,β l,c,d,e,f,g,h,i,j,k,ι ε m,ι ε n]
end Go.Proofs.YtfdlemkplejdnaaGreat
