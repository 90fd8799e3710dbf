/- WholeLatest, part 40. Conditions: none. -/
import Derived.Test.YtfdlemkplejdnaaGreatA36
import Derived.Test.YtfdlemkplejdnaaGreatA38
import Derived.Test.YtfdlemkplejdnaaGreatA39
namespace Go.Proofs.YtfdlemkplejdnaaGreat
open Go.RowKit Go.Sort
open Value renaming int->ι,pointer->ψ,slice->ζ,tuple->χ,agg->φ,map->μ,bool->β
open IntKind renaming u64->υ,i64->ε,u16->ω
open Ending renaming returned->ϰ
open Go.Proofs.Tryz renaming prog->Ψ,underlying3->Θ,underlying147->Δ,underlying152->Γ,underlying202->Φ,underlying39->Ξ,underlying207->Ω
open Go renaming World->ϖ,Value->ϗ
set_option linter.unusedVariables false
set_option linter.unusedSimpArgs false
set_option maxHeartbeats 8000000
set_option maxRecDepth 100000
theorem Cx {m d n t:Int} (hk:kd m d n≠0)(hd:0<=d)(ht:1<=t)(h:¬(3<=kd m d n/\d=t)):sv m d n (t+1)+sv m d n (t - 1)=2*sv m d n t:=by
 have hz:d=0->m=n\/(m=0/\n=0):=by intro e;unfold kd at hk;(repeat' split at hk)<;>omega
 have h3:d≠0->3<=kd m d n:=by intro e;unfold kd at hk ⊢;(repeat' split at hk)<;>(repeat' split)<;>omega
 by_cases e:d=0
 ·have:m=n:=by rcases hz e with g|g<;>omega
  subst e;subst this;unfold sv;have a1:m*(t+1 - 0)=m*t+m:=by rw[Int.sub_zero,Int.mul_add,Int.mul_one]
  have a2:m*(t - 1 - 0)=m*t - m:=by rw[Int.sub_zero,Int.mul_sub,Int.mul_one]
  have a3:m*(t - 0)=m*t:=by rw[Int.sub_zero]
  have a4:m*(t - 1)=m*t - m:=by rw[Int.mul_sub,Int.mul_one]
  rw[qI ρa,qI (show ¬t<=0 by omega),a1,a3,Int.mul_zero];split
  ·rw[a4];omega
  ·rw[a2];omega
 ·have KI:d≠t:=λg=>h ⟨h3 e,g⟩;unfold sv;by_cases g:t<d
  ·rw[qP ρa,qP ρa,qP ρa,Int.mul_add,Int.mul_sub,Int.mul_one];omega
  ·rw[qI ρa,qI (show ¬t<=d by omega)];have a1:n*(t+1 - d)=n*(t - d)+n:=by rw[show t+1 - d=(t - d)+1 by omega,Int.mul_add,Int.mul_one]
   have a2:n*(t - 1 - d)=n*(t - d) - n:=by rw[show t - 1 - d=(t - d) - 1 by omega,Int.mul_sub,Int.mul_one]
   rw[a1];split
   ·have:t - 1=d:=by omega
    have a3:t - d=1:=ρa;rw[this,a3,Int.mul_one];omega
   ·rw[a2];omega
abbrev gD (R:List CD)(t:Int):Int:=(R.map λc=>sv c.r0 c.r1 c.r2 t).sum
theorem xv {R:List CD} {t:Int} (hc:∀c ∈ R,kd c.r0 c.r1 c.r2≠0/\0<=c.r1)(ht:1<=t)(h:∀c ∈ R,¬(3<=kd c.r0 c.r1 c.r2/\c.r1=t)):gD R (t+1)+gD R (t - 1)=2*gD R t:=by
 induction R with
 | nil=>simp[gD]
 | cons c r ih=>have h1:=Cx (hc c ρp).1 (hc c ρp).2 ht (h c ρp);have h2:=ih κl (λd hd=>h d (by simp[hd]));simp only[gD,eJ,List.sum_cons] at h2 ⊢;omega
theorem xw {R:List CD} (hc:∀c ∈ R,0<=c.r1):gD R 0=0:=by
 induction R with
 | nil=>simp[gD]
 | cons c r ih=>have h2:=ih κl;simp only[gD,eJ,List.sum_cons] at h2 ⊢;rw[h2];unfold sv;rw[qP (hc c ρp),Int.mul_zero];rfl
theorem Am {R:List CD} {t:Int} (hc:∀c ∈ R,c.r1<=t):gD R (t+1)=gD R t+(R.map λc=>c.r2).sum:=by
 induction R with
 | nil=>simp[gD]
 | cons c r ih=>
  have h2:=ih κl;have h1:=hc c ρp;simp only[gD,eJ,List.sum_cons] at h2 ⊢;rw[h2];have:sv c.r0 c.r1 c.r2 (t+1)=sv c.r0 c.r1 c.r2 t+c.r2:=by
   unfold sv;rw[qI ρa,show t+1 - c.r1=(t - c.r1)+1 by omega,Int.mul_add,Int.mul_one];split
   ·have e:t=c.r1:=by omega
    rw[e,Int.sub_self,Int.mul_zero];omega
   ·omega
  omega
theorem BD {T:Int} {R:List CD} (h:xI T R)(hc:∀c ∈ R,dk c.r0 c.r1 c.r2):∀t:Nat,gD R t*T<=65536*t:=by
 obtain⟨hk,hn,hs⟩:=h;have VR:∀t:Int,(∃c ∈ R,3<=kd c.r0 c.r1 c.r2/\c.r1=t)->gD R t*T<=65536*t:=by
  rintro t ⟨c,hcR,h3,rfl⟩;have e:(R.map λc'=>sk c'.r0 c'.r1 c'.r2 c.r1)=R.map λc'=>sv c'.r0 c'.r1 c'.r2 c.r1:=List.map_congr_left λd hd=>by unfold sk;rw[qI (hk d hd)]
  have:=hn c hcR h3;rw[e] at this;exact this
 have KU:∀c ∈ R,kd c.r0 c.r1 c.r2≠0/\0<=c.r1:=λc h=>⟨(hc c h).1,(hc c h).2.2.1.1⟩;intro t
 induction t with
 | zero=>rw[show ((0:Nat):Int)=0 from rfl,xw (λc h=>(KU c h).2)];simp
 | succ t ih=>
  apply Dl;intro hneg;have main:∀j:Nat,¬gD R (t+1+j:Nat)*T<=65536*(t+1+j:Nat)/\(65536*((t+1+j:Nat):Int) - gD R (t+1+j:Nat)*T) - (65536*((t+j:Nat):Int) - gD R (t+j:Nat)*T)<0:=by
   intro j
   induction j with
   | zero=>exact⟨hneg,by simp only[Nat.add_zero];omega⟩
   | succ j ih2=>
    obtain⟨g1,g2⟩:=ih2;have hl:=xv (R:=R) (t:=((t+1+j:Nat):Int)) KU ρa (λc hcR hh=>g1 (VR _ ⟨c,hcR,hh⟩));rw[show ((t+1+j:Nat):Int)+1=((t+1+(j+1):Nat):Int) by omega,show ((t+1+j:Nat):Int) - 1=((t+j:Nat):Int) by omega] at hl;have e1:gD R (t+1+(j+1):Nat)*T+gD R (t+j:Nat)*T=2*(gD R (t+1+j:Nat)*T):=by rw[<- Int.add_mul,hl,Int.mul_assoc]
    rw[show t+(j+1)=t+1+j by omega];omega
  obtain⟨g1,g2⟩:=main 1048577;have hf:=Am (R:=R) (t:=((t+1048577:Nat):Int)) (λc h=>by have:=(hc c h).2.2.1.2;omega);rw[show ((t+1048577:Nat):Int)+1=((t+1+1048577:Nat):Int) by omega] at hf;rw[hf,Int.add_mul] at g2;omega
theorem An {f:CD->Int} {a b:List CD} (h:a.Perm b):(a.map f).sum=(b.map f).sum:=by
 induction h with
 | nil=>rfl
 | cons x _ ih=>simp only[eJ,List.sum_cons,ih]
 | swap x y l=>simp only[eJ,List.sum_cons];omega
 | trans _ _ h1 h2=>exact h1.trans h2
theorem sO {f:Int->Int} {g:CD->Int}:∀{R:List CD},(∀c ∈ R,f c.id=g c)->cW f (R.map CD.id)=(R.map g).sum
 | [],_=>rfl
 | c::r,h=>by simp only[eJ,List.sum_cons,cW];rw[h c ρp,sO (λd hd=>h d (by simp[hd]))]
theorem jG {L:List CD} (h:(L.map CD.id).Nodup):L.Nodup:=by
 induction L with
 | nil=>exact List.nodup_nil
 | cons c r ih=>rw[eJ,qD] at h;rw[qD];exact⟨λg=>h.1 (List.mem_map.2 ⟨c,g,rfl⟩),ih h.2⟩
theorem gJ.mem {L2 L:List CD} {n:Nat} (h:gJ L2 L)(R:gI n L)(c:CD):c ∈ L2↔c ∈ L:=by
 constructor
 ·intro g;have:=eU h.nd c g;rw[h.fc] at this;exact(fH this).1
 ·intro g;have:=eU R.nd c g;rw[<- h.fc] at this;exact(fH this).1
theorem gJ.rlok {L2 L:List CD} {n:Nat} {T:Int} (h:gJ L2 L)(R:gI n L)(hn:n<=64)(hl:L2.length<=64)(hF:xI T (L.filter SS.real)):lQ T L2:=by
 obtain⟨K,C,W⟩:=h.lok R hn hl;have hp:(L2.filter SS.real).Perm (L.filter SS.real):=(List.perm_ext_iff_of_nodup ((jG h.nd).filter _) ((jG R.nd).filter _)).2 λc=>by rw[qE,qE,h.mem R]
 have hcin:∀c ∈ L.filter SS.real,dk c.r0 c.r1 c.r2:=λc hc=>(C c ((h.mem R c).2 (qE.1 hc).1)).1;refine⟨λt ht=>?_,λi c hc hr=>?_⟩
 ·have:=BD hF hcin t.toNat;rw[show ((t.toNat:Nat):Int)=t by omega] at this;unfold fy;rw[sO (g:=λc=>sv c.r0 c.r1 c.r2 t) (λc hc=>by rw[jx (eU h.nd c (qE.1 hc).1)]),An hp,Int.mul_comm];exact this
 ·have F:=WC.facts (W c (fH hc).1).1;cases hl:c.lf with
  | true=>rfl
  | false=>have h1:=F.2.2.2.2.2.2.2.2.2 hl;unfold SS.real dv at hr;rw[h1] at hr;exact ax hr ρf
def lu (id:Int):Int->List EV->List Int
 | _,[]=>[]
 | q,e::r=>if dK id e=true then q::lu id (q+1) r else lu id (q+1) r
theorem pw (id:Int)(b:List EV):∀(a:List EV)(q:Int),lu id q (a++b)=lu id q a++lu id (q+a.length) b
 | [],q=>by simp[lu]
 | e::a,q=>by have ih:=pw id b a (q+1);simp only[List.cons_append,lu,mD];rw[ih,show q+1+(a.length:Int)=q+((a.length+1:Nat):Int) by omega];split<;>simp
theorem iY (id:Int):∀(a:List EV)(q:Int),(lu id q a).length=(ins id a).length
 | [],q=>rfl
 | e::a,q=>by
  rw[bp];simp only[lu];split
  ·simp[iY id a]
  ·exact iY id a _
theorem Ej {id:Int} {a1 a2:List EV} {e:EV} (h:dK id e=true):(lu id 0 (a1++e::a2))[(ins id a1).length]?=some (a1.length:Int):=by rw[pw,<- iY id a1 0,List.getElem?_append_right (qR _),Nat.sub_self];simp[lu,h]
theorem px {id:Int}:∀{L:List EV} {q:Int} {k:Nat} {p:Int},(lu id q L)[k]?=some p->∃a1 e a2,L=a1++e::a2/\dK id e=true/\p=q+a1.length/\(ins id a1).length=k
 | [],q,k,p,h=>by simp[lu] at h
 | e::r,q,k,p,h=>by
  simp only[lu] at h;split at h
  ·rename_i he;cases k with
   | zero=>exact⟨[],e,r,rfl,he,by simp at h;simp[h],rfl⟩
   | succ k=>obtain⟨a1,e',a2,rfl,h2,h3,h4⟩:=px (show (lu id (q+1) r)[k]?=some p by simpa using h);exact⟨e::a1,e',a2,rfl,h2,by rw[h3];simp;omega,by rw[bp,qP he];simp[h4]⟩
  ·rename_i he;obtain⟨a1,e',a2,rfl,h2,h3,h4⟩:=px h;exact⟨e::a1,e',a2,rfl,h2,by rw[h3];simp;omega,by rw[bp,qI he];exact h4⟩
def js (id:Int)(L:List EV):Prop:=∀a v b,L=a++v::b->dy id v=true->(bC id a).length<(ins id a).length
theorem js.pre {id:Int} {a b:List EV} (h:js id (a++b)):js id a:=λx v y e ho=>h x v (y++b) (by rw[e];simp) ho
theorem js.cur {id:Int} {l:List EV} (h:js id l):jw [id] l=((ins id l).length:Int) - (bC id l).length/\(bC id l).length<=(ins id l).length:=by
 have main:∀(n:Nat) (l:List EV),l.length=n->js id l->jw [id] l=((ins id l).length:Int) - (bC id l).length/\(bC id l).length<=(ins id l).length:=by
  intro n
  induction n with
  | zero=>intro l hl _;rw[List.length_eq_zero_iff.1 hl];exact⟨rfl,qR _⟩
  | succ n ih=>
   intro l hl hv;rcases List.eq_nil_or_concat l with rfl|⟨l',e,rfl⟩
   ·simp at hl
   ·rw[List.concat_eq_append] at hl hv ⊢;obtain⟨h1,h2⟩:=ih l' (by simpa using hl) hv.pre;rw[nJ,h1,cU,cI,bp,bQ];unfold dZ;by_cases hc:e.cls=id
    ·rw[qP (by simp[hc])];cases hi:e.inn with
     | true=>have a1:dK id e=true:=dW.2 ⟨hi,hc⟩;have a2:=fu a1;simp[a1,a2,ins,bC] at h2 ⊢;omega
     | false=>have a1:dy id e=true:=dI.2 ⟨hi,hc⟩;have a2:=mq a1;have:=hv l' e [] rfl a1;simp[a1,a2,ins,bC] at this ⊢;split<;>omega
    ·rw[qI (by simp[hc])];have a1:dK id e=false:=by simp[dK,hc]
     have a2:dy id e=false:=by simp[dy,hc]
     simp[a1,a2,ins,bC] at h2 ⊢;exact h2
 exact main _ l rfl h
theorem kh (id f t:Int)(b:List EV):∀(a:List EV)(q:Nat),bD id f t q (a++b)=bD id f t q a+bD id f t (q+a.length) b
 | [],q=>by simp[bD]
 | e::a,q=>by have ih:=kh id f t b a (q+1);simp only[List.cons_append,bD,mD];rw[ih,show q+1+a.length=q+(a.length+1) by omega];omega
theorem ki {id f t:Int}:∀{a:List EV} {q:Nat},((q:Int)+a.length<=f\/t<q)->bD id f t q a=0
 | [],q,_=>rfl
 | e::a,q,h=>by simp only[mD] at h;have ih:=ki (id:=id) (f:=f) (t:=t) (a:=a) (q:=q+1) ρa;unfold bD;rw[ih,qI ρa];rfl
theorem qn {id f t:Int}:∀{a:List EV} {q:Nat},f<=q->(q:Int)+a.length<=t+1->(∀e ∈ a,e.inn=true->1<=e.pk.len)->bD id f t q a=aA (ins id a)
 | [],q,_,_,_=>rfl
 | e::a,q,h1,h2,h3=>by
  simp only[mD] at h2;have ih:=qn (id:=id) (f:=f) (t:=t) (a:=a) (q:=q+1) ρa ρa (λx hx=>h3 x (by simp[hx]));unfold bD;rw[ih,bp];by_cases he:dK id e=true
  ·obtain⟨g1,g2⟩:=dW.1 he;have:=h3 e ρp g1;rw[qP he,qP ⟨h1,by omega,g1,g2,by omega⟩];rfl
  ·rw[qI he,qI (λg=>he (dW.2 ⟨g.2.2.1,g.2.2.2.1⟩)),Int.zero_add]
theorem nQ {m d n TL id V dn t0:Int} {L s1 s2:List EV} {es:EV} {p:Nat} (hc:dk m d n)(hp:p<L.length)
  (hV:∀(i:Nat) (e:EV),i<=p->(L.take (p+1))[i]?=some e->cJ [id] (L.take (p+1)) i->nA e.at_ (nA (tk m d n (bD id i p 0 L*65536)) TL)<=V)
  (e1:L.take (p+1)=s1++es::s2) (Nj:dK id es=true) (hs:ins id s1=bC id s1) (XU:js id L) (KC:∀e ∈ L,e.inn=true->1<=e.pk.len) (MF:0<=es.at_)
  (hW:sv m d n (max (t0 - 1 - es.at_) 0)<aA (ins id (es::s2))*65536) (h:dn<=t0+TL) (Nr:dn<=Mc):dn<=V:=by
 have hl:(L.take (p+1)).length=p+1:=by rw[List.length_take];omega
 have Py:=hl;rw[e1] at Py;simp only[qL,mD] at Py;have hL:L=s1++(es::s2++L.drop (p+1)):=by rw[<- List.append_assoc,<- e1,List.take_append_drop]
 have hv1:js id (s1++es::s2):=by have:=XU;rw[hL,<- List.append_assoc] at this;exact this.pre
 have hcur:=hv1.pre.cur.1;have LS:cJ [id] (L.take (p+1)) s1.length:=by
  unfold cJ;rw[e1,List.take_left];have e2:(s1++es::s2).take (s1.length+1)=s1++[es]:=by rw[List.take_append,List.take_of_length_le ρa];simp
  rw[e2,nJ,hcur,hs];obtain⟨g1,g2⟩:=dW.1 Nj;refine⟨by omega,?_⟩;unfold dZ;rw[qP (by simp[g2]),qP g1];omega
 have hb:=hV s1.length es ρa (by rw[e1];simp) LS;have hcame:bD id s1.length p 0 L=aA (ins id (es::s2)):=by have hlen2:∀e ∈ es::s2,e.inn=true->1<=e.pk.len:=λe he=>KC e (by rw[hL];exact qM.2 (.inr (qM.2 (.inl he))));rw[hL,kh,kh,ki (a:=s1) (by left;omega),ki (a:=List.drop (p+1) _) (by right;simp only[mD];omega),qn ρa (by simp only[mD];omega) hlen2];omega
 rw[hcame] at hb;obtain⟨W,hWe⟩:=Nq (aA (ins id (es::s2))*65536);rw[hWe] at hb hW;have h0:0<=sv m d n (max (t0 - 1 - es.at_) 0):=i6 hc ρa;have hk:=uG (m:=m) (d:=d) (n:=n) (W:=W) hc.2.1.1 hc.2.2.1.1 hc.2.2.2.1 ρa;by_cases hn:tk m d n W=Mc
 ·unfold nA at hb;rw[hn,qP (show (Mc:Int)<=Mc\/_ from .inl (qJ _)),qP (.inr (.inl (qJ _)))] at hb;omega
 ·have Uh:=(Cz hc.2.1.1 hc.2.2.1.1 hc.2.2.2.1 (show 0<=W by omega) hn).1;unfold sk at Uh;rw[qI hc.1] at Uh;have Ku:max (t0 - 1 - es.at_) 0<tk m d n W:=by
   apply Dl;intro g;have:=vL (m:=m) (d:=d) (n:=n) hc.2.1.1 hc.2.2.2.1 (show tk m d n W<=max (t0 - 1 - es.at_) 0 by omega);omega
  unfold nA at hb
  repeat' split at hb
  all_goals omega
structure kP (T Lm clk:Int) (c:CD) (L:List EV):Prop where
 cin:dk c.r0 c.r1 c.r2
 out:∀a v b,L=a++v::b->dy c.id v=true->xJ c.r0 c.r1 c.r2 (T*Lm) c.id a v.done/\v.done<=Mc
 wt:(bC c.id L).length<(ins c.id L).length->xJ c.r0 c.r1 c.r2 (T*Lm) c.id L (clk+1)
 len:∀e ∈ L,e.inn=true->1<=e.pk.len
 at_:∀e ∈ L,0<=e.at_/\e.pk.len<=16384
 clk:clk<=4611686018427387904
section
variable {T Lm clk:Int} {c:CD} {L:List EV}
theorem kP.valid (H:kP T Lm clk c L):js c.id L:=λa v b e ho=>by obtain⟨⟨a1,ea,a2,s1,es,s2,t,rfl,h2,h3,_⟩,_⟩:=H.out a v b e ho;rw[<- h3,cU,bp,qP h2];simp
theorem kP.picked (H:kP T Lm clk c L) {a b:List EV} {v:EV} (e:L=a++v::b)(ho:dy c.id v=true):∃p:Nat,(lu c.id 0 a)[(bC c.id a).length]?=some (p:Int)/\p<L.length/\∀V,(∀(i:Nat)(e:EV),i<=p->(L.take (p+1))[i]?=some e->cJ [c.id] (L.take (p+1)) i->nA e.at_ (nA (tk c.r0 c.r1 c.r2 (bD c.id i p 0 L*65536)) (T*Lm))<=V)->v.done<=V:=by
 obtain⟨⟨a1,ea,a2,s1,es,s2,t,rfl,h2,h3,h4,h5,h6,h7,h8⟩,h9⟩:=H.out a v b e ho;have hx:L=a1++(ea::(a2++v::b)):=by rw[e];simp
 have hp:a1.length<L.length:=by rw[hx];simp
 have ht:L.take (a1.length+1)=a1++[ea]:=by rw[hx,List.take_append,List.take_of_length_le ρa];simp
 have hm:es ∈ L:=by
  have:es ∈ a1++[ea]:=by rw[h4];simp
  rw[hx];rcases qM.1 this with g|g
  ·simp[g]
  ·simp at g;simp[g]
 refine⟨a1.length,by rw[<- h3];exact Ej h2,hp,λV hV=>?_⟩;exact nQ H.cin hp hV (ht.trans h4) h5 h6 H.valid H.len (H.at_ es hm).1 h8 h7 h9
theorem kP.waits (H:kP T Lm clk c L) {k:Nat} {x:Int} (hk:(bC c.id L).length<=k)(hx:(lu c.id 0 L)[k]?=some x):∃p:Nat,x=p/\p<L.length/\∀V,(∀(i:Nat)(e:EV),i<=p->(L.take (p+1))[i]?=some e->cJ [c.id] (L.take (p+1)) i->nA e.at_ (nA (tk c.r0 c.r1 c.r2 (bD c.id i p 0 L*65536)) (T*Lm))<=V)->clk<V:=by
 obtain⟨b1,eb,b2,hb,hbi,hxp,hbk⟩:=px hx;have hl:(bC c.id L).length<(ins c.id L).length:=by rw[hb,cU,bp,qP hbi,<- hb];simp;omega
 obtain⟨a1,ea,a2,s1,es,s2,t,ha,h2,h3,h4,h5,h6,h7,h8⟩:=H.wt hl;have hp:b1.length<L.length:=by rw[hb];simp
 have Kv:a1.length<=b1.length:=by
  apply Dl;intro g;have e1:b1++[eb] <+:a1:=by have p1:b1++[eb] <+:L:=⟨b2,by rw[hb];simp⟩;have p2:a1 <+:L:=⟨ea::a2,ha.symm⟩;exact List.prefix_of_prefix_length_le p1 p2 ρF
  obtain⟨z,hz⟩:=e1;have:(ins c.id b1).length<(ins c.id a1).length:=by rw[<- hz,cU,cU,bp,qP hbi];simp
  have e3:=qG List.length h3;omega
 obtain⟨z,hz⟩:a1++[ea] <+:L.take (b1.length+1):=by have p2:a1++[ea] <+:L:=⟨a2,by rw[ha];simp⟩;exact List.prefix_of_prefix_length_le p2 (List.take_prefix _ _) (by rw[List.length_take];simp;omega)
 have hm:es ∈ L:=by
  have:es ∈ a1++[ea]:=by rw[h4];simp
  rw[ha];rcases qM.1 this with g|g
  ·simp[g]
  ·simp at g;simp[g]
 refine⟨b1.length,by rw[hxp];omega,hp,λV hV=>?_⟩;have XE:=nQ (s1:=s1) (es:=es) (s2:=s2++z) (t0:=t) (dn:=clk+1) H.cin hp hV (by rw[<- hz,h4];simp) h5 h6 H.valid H.len (H.at_ es hm).1 ?_ h7 (by have:=H.clk;omega)
 ·omega
 ·refine Int.lt_of_lt_of_le h8 ?_;have:aA (ins c.id (es::s2))<=aA (ins c.id (es::(s2++z))):=by
   rw[show es::(s2++z)=(es::s2)++z from rfl,cU,dQ];have:0<=aA (ins c.id z):=lW λq hq=>by obtain⟨e,he,hi,rfl⟩:=vh hq;have he2:e ∈ L:=List.mem_of_mem_take (by rw[<- hz];exact qM.2 (.inr he));have:=H.len e he2 hi;omega
   omega
  omega
end
def YS.EVs (y:YS):Prop:=∀e ∈ y.ev,(∃c,fc y.s.L e.cls=some c)/\e.done<=4611686019501129728/\e.pk.len<=16384
section
variable {op:Int} {y z:YS}
theorem fW.evs (hp:fW op y z)(h:y.Ok0)(E:y.EVs):z.EVs:=by
 cases hp with
 | busy hb=>exact E
 | idle hb K8=>exact E
 | @pick i b c xs p r hb K8 hc hq hu=>
  obtain⟨P,hl,T,I,N,hp,ht⟩:=h.pick K8 hc hq hu;have RP:=h.num.lm;have Qt:=h.clk;intro e he;rw[T.L];rcases qM.1 he with g|g
  ·exact E e g
  ·rw[qS.1 g];exact⟨⟨c,hc⟩,by show y.clk+y.s.T*p.len<=_;omega,by show p.len<=_;omega⟩
theorem cf.evs {stop:Int} (hr:cf op stop y z)(h:y.Ok)(hs:stop<=4611686018427387904)(h0:y.clk<=stop)(E:y.EVs):z.EVs:=by
 induction hr with
 | @done y hn=>exact E
 | @next y z t hn hp _ ih=>have ha:=h.at_next hs hn;obtain⟨g1,g2,g3,g4,g5⟩:=hp.ok ha;exact ih g1 (by rw[g2];exact hn) (hp.evs ha E)
theorem lD.evs (hs:lD op y z)(h:y.Ok)(E:y.EVs):z.EVs:=by
 cases hs with
 | nothing=>exact E
 | refused hn e KI=>
  rcases bY h.inv.ec hn e with ⟨_,rfl|⟨rfl,_⟩⟩|⟨g,_⟩
  ·exact E
  ·exact E
  ·exact ax g KI
 | @packet i p xs s' z hP e hp=>
  have I:=h.inv.put hP e;have hn:xs.Nodup\/fc y.s.L i=none:=by
   cases hc:fc y.s.L i with
   | none=>exact .inr rfl
   | some c=>exact ηO
  rcases hn with hn|hn
  ·rcases bY h.inv.ec hn e with ⟨g,_⟩|⟨_,c,F⟩
   ·exact ax rfl g
   ·have P:=hP c F.cls.1;refine δd ?_;intro N O;refine hp.evs O λe he=>?_;show (∃c,fc s'.L e.cls=some c)/\_;rw[F.L];rcases qM.1 he with g|g
    ·exact E e g
    ·rw[qS.1 g];have:=F.len;have:=h.num.lm;exact⟨⟨c,F.cls.1⟩,by show (0:Int)<=_;omega,by show p.len<=_;omega⟩
  ·exact ηb
 | adv h0 h1 hr=>exact hr.evs h h1 h0 E
theorem jr.evs {y0:YS} {l:List OI} (hr:jr y0 l y)(h0:y0.Ok)(E:y0.EVs):y.EVs:=by
 induction hr with
 | nil=>exact E
 | snoc hr _ hs _ ih=>exact hs.evs (hr.ok h0).1 ih
theorem jr.clk {y0:YS} {l:List OI} (hr:jr y0 l y):y.clk=l.foldl (λc x=>x.clk c) y0.clk:=by
 induction hr with
 | nil=>rfl
 | snoc hr _ hs e ih=>rw[List.foldl_append];show _=OI.clk _ _;rw[e,ih]
end
structure xK (T Lm:Int) (L2 M:List CD) (x0:OI) (r:List OI) (y:YS):Prop where
 clk:y.clk=jg (x0::r)
 ok:y.Ok
 ev:y.ev.length<=2*(r.length+1)
 at_:∀e ∈ y.ev,0<=e.at_/\e.pk.len<=16384
 lat:∀c ∈ M,SS.real c=true->kP T Lm (jg (x0::r)) c y.ev
theorem EY {T Lm:Int} {L2 M:List CD} {n:Nat} {Pn:Int->Prop} {x0:OI} {r:List OI} {y:YS} (Ov:gJ L2 M)(R:gI n M)(hn:n<=64)(hl:L2.length<=64)(hF:xI T (M.filter SS.real))(hT:1<=T/\T<=65536)(RP:1<=Lm/\Lm<=16384)(hk:x0.k=1)(h:eS T Lm (nj T Lm L2 Pn) (x0::r) y):xK T Lm L2 M x0 r y:=by
 obtain⟨K,C,W⟩:=Ov.lok R hn hl;have K7:∀y0,nj T Lm L2 Pn y0->y0.Ok:=λy0 h0=>ηN
 have KC:=eS.len K7 h;obtain⟨y0,hs,hr⟩:=h;have h0:=K7 y0 hs;obtain⟨hy,hL,hTe,hLe⟩:=hr.ok h0;have No:y.clk=jg (x0::r):=by
  rw[hr.clk];unfold jg;rw[List.foldl_cons];have:OI.clk x0 0=0:=by unfold OI.clk;rw[qI ρa]
  rw[this];rcases hs with ⟨_,_,_,rfl⟩|⟨_,rfl⟩<;>rfl
 have hE:y.EVs:=hr.evs h0 (by rcases hs with ⟨_,_,_,rfl⟩|⟨_,rfl⟩<;>(intro e he;have he:e ∈ ([]:List EV):=he;cases he));have Qt:=hy.clk;rcases hs with ⟨_,_,_,rfl⟩|⟨_,rfl⟩
 ·have hLn:y.s.L=[]:=hL;have Ny:y.ev=[]:=by
   cases he:y.ev with
   | nil=>rfl
   | cons e l=>obtain⟨⟨c,hc⟩,_⟩:=hE e (by rw[he];simp);rw[hLn] at hc;cases hc
  refine⟨No,hy,by simpa using KC,λe he=>(by rw[Ny] at he;cases he),λc hc Nv=>?_⟩;rw[Ny];refine⟨(C c ((Ov.mem R c).2 hc)).1,λa v b e=>?_,λg=>?_,λe he=>?_,λe he=>?_,by rw[<- No];exact Qt.2.2⟩
  ·cases a<;>cases e
  ·have g:(0:Nat)<0:=g;omega
  ·cases he
  ·cases he
 ·have hLn:y.s.L=L2:=hL;have hTn:y.s.T=T:=hTe;have hLmn:y.s.Lm=Lm:=hLe;have K9:=Ov.rlok R hn hl hF;have D:=hr.du h0 (show lQ T L2 from K9) (f7.du K Ov.nd C hT RP);have Ud:=D.ds;unfold YS.DSx at Ud;rw[hLn,hTn,hLmn] at Ud;refine⟨No,hy,by simpa using KC,λe he=>⟨(Ud.tm.2 e he).1,(hE e he).2.2⟩,λc hc Nv=>?_⟩;have VP:fc L2 c.id=some c:=by rw[Ov.fc];exact eU R.nd c hc
  have hi:c.id ∈ fy L2:=(dH K).2 ⟨c,VP,Nv⟩;have RR:=jx VP;refine⟨(C c ((Ov.mem R c).2 hc)).1,λa v b e ho=>⟨?_,?_⟩,λg=>?_,λe he hi2=>(Ud.len e he hi2).1,λe he=>⟨(Ud.tm.2 e he).1,(hE e he).2.2⟩,by rw[<- No];exact Qt.2.2⟩
  ·have:=Ud.hist c.id hi a v b e ho;rw[RR] at this;exact this
  ·have:=(hE v (by rw[e];simp)).2.1;omega
  ·have hff:=(Ud.gh c.id hi).fifo;cases hq:(y.s.e c.id).q with
   | nil=>simp only[hq,qA] at hff;rw[hff] at g;omega
   | cons p q=>have:=D.wait hy (by rw[hTn,hLn];exact K9) (by rw[hLn];exact hi) hq;rw[hLn,RR,hTn,hLmn,No] at this;exact this
abbrev wK (ch:List (Int × CD)):List CD:=ch.foldl (λL c=>eI c.1 c.2 L) []
theorem rj:∀(ch:List (Int × CD))(L:List CD),(ch.foldl (λL c=>eI c.1 c.2 L) L).length<=L.length+ch.length
 | [],L=>qR _
 | c::r,L=>by have h1:=rj r (eI c.1 c.2 L);have h2:=rF c.1 c.2 L;simp only[List.foldl_cons,mD];omega
theorem Jk (T Lm:Int)(hT:1<=T/\T<=65536)(RP:1<=Lm/\Lm<=16384)(x0:OI)(r:List OI)(M:List CD)(v:ϗ)(B:Nat)(w:ϖ)(G:cK w B v (x0::r))(hk:x0.k=1)(hr:∀x ∈ r,x.k≠1/\x.fine)(KC:(x0::r).length<=1000)(LD:∀c ∈ x0.ch,CN c.2)(hS:dA x0.ch [] M)(h32:x0.ch.length<=32)(hF:xI T (M.filter SS.real)):Calls Ψ 9 #[φ #[ι ε T,ι ε Lm,v]] w λe w'=>∃rs ev y,e=ϰ (χ #[φ #[rs,ev],Kz])/\xK T Lm (wK x0.ch) M x0 r y/\cG w' w ev y.ev/\(∃ra rn rc,rs=ζ ra rn rc)/\Below w w w':=by
 obtain⟨K8,Ov,R⟩:=gJ.nil.steps gI.nil ρa LD hS;rw[Nat.zero_add] at R;have Py:(wK x0.ch).length<=64:=by have:=rj x0.ch [];simp only[List.length_nil,Nat.zero_add] at this;exact qK this ρa
 obtain⟨K,C,W⟩:=Ov.lok R ρa Py;have F:nF w B T x0 (wK x0.ch) (λ_=>True):=by refine⟨hk,by omega,λc hc hl=>(WC.facts (W c hc).1).2.2.2.2.2.2.2.2.1 hl,K.nz,λcv RR Tb Mb w1 hb ht=>?_⟩;have VM:aK 15 pX w1 B cv x0.ch:=RR.belowK hb (by obtain⟨_,_,_,_,h,_⟩:=RR;exact h);refine(CA yj Tb Mb [] T cv x0.ch B w1 ht hT ρp VM (by obtain⟨_,_,_,_,h,_⟩:=VM;exact h) K8 (λc hc=>LD c hc) ρa).mono ?_;rintro e w2 ⟨u,i,n,rfl,h1,h2⟩;exact⟨u,i,n,rfl,trivial,h1,h2⟩
 have K7:∀y0,nj T Lm (wK x0.ch) (λ_=>True) y0->y0.Ok:=λy0 h0=>ηN
 refine(Jz T Lm hT RP x0 r (wK x0.ch) (λ_=>True) v B w G F K7 KC hr).mono ?_;rintro e w' ⟨rs,ev,y,rfl,h1,h2,h3⟩;exact⟨rs,ev,y,rfl,EY Ov R ρa Py hF hT RP hk h1,h2,h3⟩
def uR:Prop:=∀u:ϖ,CB 8 #[] u fF
theorem ae.le_cap {α:Type} {e:TypeId} {n:Nat} {enc:α->List ϗ} {w:ϖ} {base:Nat} {v:ϗ} {l:List α} (h:ae e n enc w base v l):∀a m Kt,v=ζ a m Kt->l.length<=Kt:=by
 rintro a m Kt rfl;obtain⟨_,hh⟩:=h;rcases hh with ⟨h1,h2⟩|⟨g',PF,cur,hv,_,_,hc,_⟩
 ·omega
 ·obtain⟨_,_,rfl⟩:=qV hv;exact hc
theorem dA.len {ch:List (Int × CD)} {M:List CD} (h:dA ch [] M)(h32:ch.length<=32):M.length<=1000:=by
 have key:∀(ch:List (Int × CD)) (L M:List CD),dA ch L M->M.length<=L.length+ch.length:=by
  intro ch
  induction ch with
  | nil=>intro L M h;cases h;exact qR _
  | cons c r ih=>
   rintro L M ⟨K,h1,h2⟩;have:=ih K M h2;have h3:K.length<=L.length+1:=by
    rcases h1 with ⟨_,_,rfl⟩|⟨_,_,_,rfl⟩|⟨_,_,rfl⟩
    ·exact gB c.2 L false
    ·exact qK (qH _ _) ρa
    ·exact gB c.2 L false
   simp only[mD];omega
 have:=key ch [] M h;simp at this;omega
theorem xS (g o d:Nat):({block:=g,off:=o,spot:=none}:Addr).add d=⟨g,o+d,none⟩:=by
 by_cases h:d=0
 ·subst h;rfl
 ·unfold Addr.add;rw[qI h]
theorem aK.nilc {α:Type} {n:Nat} {enc:α->List ϗ} {w:ϖ} {B m Kt:Nat} {a:Option Addr} {L:List α} (h:aK n enc w B (ζ a m Kt) L):(a=none/\m=0/\Kt=0)\/∃ad,a=Option.some ad:=by
 obtain⟨a',PF,h1,_,_,h5,_⟩:=h;obtain⟨rfl,rfl,rfl⟩:=qV h1;cases a with
 | none=>obtain⟨h6,h7⟩:=h5 rfl;exact .inl ⟨rfl,by rw[h7];rfl,h6⟩
 | some ad=>exact Or.inr ⟨ad,rfl⟩
theorem CR (AL:uR)(T Lm:Int)(v:ϗ)(Os:List OI)(hc:∀x ∈ Os,∀c ∈ x.ch,CN c.2)(ht:∀x ∈ Os,0<=x.tk/\x.tk<=Ma)(w:ϖ)(B:Nat)(G:cK w B v Os):
  CB 3 #[φ #[ι ε T,ι ε Lm,v]] w fF:=by
 obtain⟨oa,oc,rfl,-⟩:=G.slice;have zB:B<=w:=G.base_le;obtain⟨n,hn⟩:=Nq Os.length;obtain⟨z,hz⟩:∃z,decide ((1<=T/\T<=65536/\1<=Lm/\Lm<=16384)/\(Os.length:Int)<=80/\∀y ∈ Os,y.ch.length<=40/\y.rl.length<=40)=z:=⟨_,rfl⟩;rw[hn] at G ⊢;have hR:∀u,cK u B (ζ oa n oc) Os->CB 7 #[φ #[ι ε T,ι ε Lm,ζ oa n oc],ι ε 80] u (β z):=λu h=>by have g:=Fm _ Os T Lm 80 ρa u B h;rw[hz] at g;exact g
 change Hid _ at hz hn;unfold CB;go_in;go_wp2_with fail;refine Jc (θ2 (Ks (λ_=>False) w) G) (λv=>ah v w #[ι ε T,ι ε Lm,ζ oa n oc] 26) ρB ?_;rintro v1 S1 ⟨I',G1⟩;have Rr:=S1.r;refine(Fi _ Os T Lm hc v1 B G1).mono ?_;rintro e v2 ⟨sa,sn,sc,m,rfl,hfx,kx⟩;clear Rr;obtain⟨⟨G2,S2,J'⟩,Rr⟩:=Mx kx (θ3 G1 S1 I');clear kx;replace hfx:=ag hfx;by_cases cm:m=0
 rotate_left
 ·have dm:(m==0)=false:=qN.2 cm;clear cm;go_wp2_with fail;refine Zc (θ3 J' G2 S2) ?_;rintro v3 ⟨Kk,G3,S3⟩;refine(hR v3 G3).mono ?_;rintro e v4 ⟨rfl,kx⟩;clear Rr;obtain⟨⟨G4,S4,Km⟩,Rr⟩:=Mx kx (θ3 G3 S3 Kk);clear kx;cases z
  ·exact ξv
  ·exact ξv
 have dm:(m==0)=true:=by rw[cm];rfl
 obtain⟨x0,r,Xx,ML,hxr,M,HM,hSt,Xy,h32,hFit⟩:=hfx.out cm;clear hfx cm;have M2:=ae.rd HM (λ_=>rfl);obtain⟨B1,VI⟩:=Nq v2.heap.size;rw[VI] at M2;clear VI HM;obtain⟨_,_,e9,-⟩:=M2.slice;obtain⟨rfl,rfl,rfl⟩:=qV e9;clear e9;obtain⟨mn,Qc⟩:=Nq M.length;rw[Qc] at M2 ⊢;change Hid _ at hSt hFit hxr Xx;go_wp2_with fail;refine Zc (θ4 J' G2 S2 M2) ?_;rintro v3 ⟨Kk,G3,S3,M3⟩;refine(hR v3 G3).mono ?_;rintro e v4 ⟨rfl,kx⟩;clear Rr;obtain⟨⟨G4,S4,M4,Km⟩,Rr⟩:=Mx kx (θ4 G3 S3 M3 Kk);clear kx;cases z
 ·exact ξv
 obtain⟨⟨hT1,hT2,TV,Nx⟩,KC,K8⟩:=of_decide_eq_true hz.out;have hmnl:mn<=1000:=by rw[<- Qc];exact hSt.out.len h32
 have hRun:∀u,cK u B (ζ oa n oc) Os->Calls Ψ 9 #[φ #[ι ε T,ι ε Lm,ζ oa n oc]] u λe w'=>∃rs ev y,e=ϰ (χ #[φ #[rs,ev],Kz])/\xK T Lm (wK x0.ch) M x0 r y/\cG w' u ev y.ev/\(∃ra rn rc,rs=ζ ra rn rc)/\Below u u w':=λu h=>Jk T Lm ⟨hT1,hT2⟩ ⟨TV,Nx⟩ x0 r M _ B u (by rw[<- Xx.out];exact h) ML (λx hx=>⟨hxr.out x hx,ht x (by rw[Xx.out];simp[hx]),by have:=(K8 x (by rw[Xx.out];simp[hx])).2;omega⟩) (by rw[<- Xx.out];omega) (λc KU=>hc x0 (by rw[Xx.out];simp) c KU) hSt.out h32 hFit.out;change Hid _ at KC K8 Qc ML;clear hz hR;go_wp2_with fail;refine Zc (θ4 Km G4 S4 M4) ?_;rintro v5 ⟨Kw,G5,S5,M5⟩;refine(hRun v5 G5).mono ?_;rintro e v6 ⟨rs,ev,y,rfl,hY,HE,hrs,kx⟩;clear Rr;obtain⟨⟨G6,S6,M6,KH⟩,Rr⟩:=Mx kx (θ4 G5 S5 M5 Kw);clear kx;obtain⟨ra,rn,rc,rfl⟩:=hrs;have KY:=ae.le_cap HE;have E6:=ae.rd HE (λ_=>rfl);obtain⟨B4,YG⟩:=Nq v6.heap.size;rw[YG] at E6;replace YG:=ag YG;clear HE;obtain⟨L,hL⟩:=Nq y.ev;obtain⟨ea,ec,rfl,-⟩:=E6.slice;replace KY:=KY ea _ ec rfl;have Xv:L.length<=1000:=by have:=hY.ev;have h2:=KC.out;rw[Xx.out] at h2;simp at h2;rw[<- hL];omega
 have Ny:∀e ∈ L,0<=e.at_/\e.pk.len<=16384:=by rw[<- hL];exact hY.at_
 have hlat:∀c ∈ M,SS.real c=true->kP T Lm (jg Os) c L:=by rw[<- hL,Xx.out];exact hY.lat
 rw[hL] at E6 KY ⊢;obtain⟨en,Qb⟩:=Nq L.length;rw[Qb] at E6 KY ⊢;change Hid _ at hL hY Qb Ny hlat;go_upto_region 5 with fail;refine jW (θ5 KH G6 S6 M6 E6) (λv=>ah v v6 #[ζ ra rn rc,ζ ea en ec] 35) ρB ?_;clear Rr;rintro v7 Y7 ⟨KV,G7,S7,M7,E7⟩ Rr;have Ss:=Y7.r;obtain⟨W6,rfl⟩:∃W:ϖ,W=v6:=⟨_,rfl⟩;have hen9:en<=1000:=by rw[<- Qb.out];exact Xv
 have hMw:∀c ∈ M,WC c=0/\CN c:=(gJ.nil.steps gI.nil ρa (λc KU=>hc x0 (by rw[Xx.out];simp) c KU) hSt.out).2.2.wc;replace hMw:=ag hMw;clear hRun;go_wp2_with fail;go_loopw [38] (fun  k wr=>∃(ua ub:List CD),k=ι ε (ua.length:Nat)/\M=ua++ub/\ah wr w #[ι ε T,ι ε Lm,ζ oa n oc] 26/\cK wr B (ζ oa n oc) Os/\aK 12 ls wr B4 (ζ ea en ec) L/\ah wr W6 #[ζ ra rn rc,ζ ea en ec] 35/\aK 14 eN wr B1 (ζ sa mn sc) M/\KO (λ_=>False) w wr) (λk _=>mn - (intOf k).toNat);case atStart=>exact⟨[],M,rfl,rfl,ρB,G7.below ρE,E7.below ρE,ρB,M7.below ρE,KV.step0 ρE⟩
 case round=>
  obtain⟨ua,ub,rfl,QD,S0,G0,E0,Y0,M0,uk00⟩:=hrel;have uzw:=uk00.size;have RI:ua.length+ub.length=mn:=by rw[<- Qc.out,QD,qL]
  obtain⟨uq,uhq⟩:=Nq ua.length;rw[uhq] at RI ⊢;clear S7 G7 E7 Y7 M7 KV;replace Ss:=θ2 S0.r Y0.r;cases ub with
  | nil=>
   have uhlt:¬(uq:Int)<(mn:Int):=by simp at RI;omega
   have uhd:=qF uhlt;have uhLa:M=ua:=by rw[QD,qA]
   change Hid _ at RI QD uhq uhLa;go_wp2_with fail;refine Zc uk00 ?_;rintro v1 I';refine(AL v1).mono ?_;rintro e v2 ⟨rfl,kx⟩;have J':KO (λ_=>False) w v2:=I'.step0 kx;clear kx;exact ηp
  | cons c ur=>
   have uhlt:(uq:Int)<(mn:Int):=by simp at RI;omega
   have uhd:=qT uhlt;have uhcq:M[uq]?=some c:=by rw[QD,<- uhq];simp
   have uhcm:c ∈ M:=by rw[QD];simp
   have uhqn:uq<mn:=ρa;have uzGB:B1<=wr:=by obtain⟨_,_,_,_,h,_⟩:=M0;exact h
   obtain⟨ug0,Yk,rfl,uhg,uRA⟩:=M0.at uhcq;have uhgw:ug0<wr:=ρa;have LD:=(hMw.out c uhcm).2;obtain⟨kv,Nt⟩:=Nq (kd c.r0 c.r1 c.r2);change Hid _ at RI uhq QD uhcq Nt;go_upto_region 8 with (fail);go_upto_region 9 with (refine Go.wpList_load_mid rfl 43 _ rfl ug0 (Yk+uq*14) rfl (eN c) _ uRA Tryz.underlying43 rfl ρi ?_;try simp only[eN]);refine jW (θ6 uk00 S0 G0 E0 Y0 M0) (λv=>ah v wr (fh c) 43) ρB ?_;clear Rr Ss;rintro v1 C1 ⟨I',S1,G1,E1,Y1,M1⟩ Rr;have Ss:=C1.r;go_wp2_with fail;refine Zc (θ7 I' S1 G1 E1 Y1 M1 C1) ?_;rintro v2 ⟨J',S2,G2,E2,Y2,M2,C2⟩;refine(bV c.r0 c.r1 c.r2 kv v2 LD.1.1 LD.1.2.1 LD.1.2.2 Nt.out).mono ?_;rintro e v3 ⟨rfl,kx⟩;clear Rr Ss;obtain⟨⟨S3,G3,E3,Y3,M3,C3,Kk⟩,Rr⟩:=Mx kx (θ7 S2 G2 E2 Y2 M2 C2 J');clear kx;by_cases c1:kv<2
   ·have d1:=qT c1;clear c1;go_wp2;go_roundw;case rel=>exact⟨ua++[c],ur,by rw[qL,uhq.out];go_num,by rw[QD.out];simp,ρB,G3.below ρE,E3.below ρE,ρB,M3.below ρE,Kk.step0 ρE⟩
    case measure=>have:=RI.out;simp[intOf] at*;omega
   have d1:=qF c1;have HL:=ag (hlat.out c uhcm (by unfold SS.real dv;rw[Nt.out];exact qT ρa));clear c1;obtain⟨W,rfl⟩:∃W:ϖ,W=wr:=⟨_,rfl⟩;have hB4W:B4<=W:=by obtain⟨_,_,_,_,h,_⟩:=E0;exact h
   have hB1W:B1<=W:=by obtain⟨_,_,_,_,h,_⟩:=M0;exact h
   have hYW:W6.heap.size<W:=Y0.size;have hSW:w.heap.size<W:=S0.size;have zC3:W.heap.size<v3:=C3.size;go_wp2_with fail;go_loopw [10,11,48] (λo d k wr=>∃(a b:List EV),k=ι ε (a.length:Nat)/\L=a++b/\(d=ι ε ((bC c.id a).length:Nat))/\(HI wr (W+1) o (lu c.id 0 a))/\ah wr w #[ι ε T,ι ε Lm,ζ oa n oc] 26/\cK wr B (ζ oa n oc) Os/\aK 14 eN wr B1 (ζ (some ⟨ug0,Yk,none⟩) mn sc) M/\ah wr W6 #[ζ ra rn rc,ζ ea en ec] 35/\ah wr W (fh c) 43/\aK 12 ls wr B4 (ζ ea en ec) L/\KO (λ_=>False) w wr) (λ_ _ k _=>en - (intOf k).toNat);case atStart=>exact⟨[],L,rfl,rfl,rfl,ae.nil _ _,ρB,G3.below ρE,M3.below ρE,ρB,ρB,E3.below ρE,Kk.step0 ρE⟩
   case round=>
    obtain⟨a,b,rfl,Kq,rfl,H0,S0,G0,M0,Y0,C0,E0,Kj⟩:=hrel;have zw:=Kj.size;have Kv:a.length+b.length=en:=by rw[<- Qb.out,Kq,qL]
    obtain⟨q,hq⟩:=Nq a.length;rw[hq] at Kv ⊢;clear S3 G3 M3 Y3 C3 E3 Kk;obtain⟨dn,Nr⟩:=Nq ((bC c.id a).length);rw[Nr];obtain⟨ys,KR⟩:=Nq (lu c.id 0 a);rw[KR] at H0;obtain⟨ob,yc,rfl⟩:=ae.slice H0;obtain⟨ym,Ul⟩:=Nq ys.length;rw[Ul] at H0 ⊢;have Ss:=θ3 S0.r Y0.r C0.r;cases b with
    | nil=>
     have Ku:¬(q:Int)<(en:Int):=ρo;have hd:=qF Ku;have Mi:L=a:=ρQ;have U':lu c.id 0 L=ys:=by rw[Mi];exact KR
     have hoL:(bC c.id L).length=dn:=by rw[Mi];exact Nr
     have hdy:dn<=ym:=by have h:=HL.out.valid.cur.2;rw[hoL,<- iY c.id L 0,U',Ul] at h;exact h
     have hym9:ym<=1000:=by rw[<- Ul,<- U',iY];have:=qH (dK c.id) L;simp only[ins,nl];omega
     have hyc9:ym<=yc:=by have h:=ae.le_cap H0 ob ym yc rfl;rw[Ul] at h;exact h
     have XY:=ag Ul;change Hid _ at Kv Kq hq Mi KR Nr Ul;have Z0:=ae.rd H0 (λ_=>rfl);obtain⟨B7,hB7⟩:=Nq wr.heap.size;rw[hB7] at Z0;clear hB7;by_cases hA:dn<ym
     ·obtain⟨gi,oi,rfl⟩:=Z0.some (λe=>by rw[e] at XY;have:=XY.out;simp at this;omega);have hadd:({block:=gi,off:=oi,spot:=none}:Addr).add dn=⟨gi,oi+dn,none⟩:=xS gi oi dn;have KI:¬yc=dn:=ρa;have m1:(dn:Int)<=(ym:Int):=ρa;have m2:(ym:Int)<=(yc:Int):=ρa;have Od:((ym - dn:Nat):Int)=(ym:Int) - dn:=ρa;go_wp2_with fail;go_loopw [92] (λk wr=>∃j:Nat,k=ι ε j/\j<=ym - dn/\ah wr w #[ι ε T,ι ε Lm,ζ oa n oc] 26/\cK wr B (ζ oa n oc) Os/\aK 14 eN wr B1 (ζ (some ⟨ug0,Yk,none⟩) mn sc) M/\ah wr W6 #[ζ ra rn rc,ζ ea en ec] 35/\ah wr W (fh c) 43/\aK 12 ls wr B4 (ζ ea en ec) L/\aK 1 (λx:Int=>[Value.int .i64 x]) wr B7 (ζ (some ⟨gi,oi,none⟩) ym yc) ys/\KO (λ_=>False) w wr) (λk _=>(ym - dn) - (intOf k).toNat);case atStart=>exact⟨0,rfl,by omega,ρB,G0.below ρE,M0.below ρE,ρB,ρB,E0.below ρE,Z0.below ρE,Kj.step0 ρE⟩
      case round=>
       skip;obtain⟨j,rfl,hj,S5,G5,M5,Y5,C5,E5,Z5,Kw⟩:=hrel;have z5:=Kw.size;clear S0 G0 M0 Y0 C0 E0 Z0 H0 Kj;replace Ss:=θ3 S5.r Y5.r C5.r;by_cases QR:j<ym - dn
       rotate_left
       ·have d6:=qF QR;have d6':=df ((j:Int)<((ym - dn:Nat):Int));go_wp2;go_roundw;case rel=>exact⟨ua++[c],ur,by rw[qL,uhq.out];go_num,by rw[QD.out];simp,ρB,G5.below ρE,E5.below ρE,ρB,M5.below ρE,Kw.step0 ρE⟩
        case measure=>have:=RI.out;simp[intOf] at*;omega
       have d6:=qT QR;have d6':=dt ((j:Int)<((ym - dn:Nat):Int));have Zh:ys[dn+j]?=some (ys[dn+j]'(by have:=XY.out;omega)):=List.getElem?_eq_getElem _;obtain⟨xp,hxp⟩:∃x,ys[dn+j]'(by have:=XY.out;omega)=x:=⟨_,rfl⟩;rw[hxp] at Zh;obtain⟨p,rfl,PN,RW⟩:=HL.out.waits (k:=dn+j) (by rw[hoL];omega) (by rw[U'];exact Zh);obtain⟨V,hV⟩:=Nq (wD T Lm c L c.id p);obtain⟨ck,Qt⟩:=Nq (jg Os);have hlt9:ck<V:=by rw[<- hV,<- Qt];exact RW _ vj
       have d7:=df (V<=ck);have hLa9:∀u,aK 12 ls u B4 (ζ ea en ec) L->CB 11 #[φ #[ι ε T,ι ε Lm],φ (aH c.r0 c.r1 c.r2),ζ ea en ec,ι ε c.id,ι ε p] u V:=λu h=>by have g:=vD T Lm c.id p c ea ec L u B4 ⟨hT1,hT2⟩ ⟨TV,Nx⟩ (have hh:=HL.out.cin;⟨by have:=hh.2.1;omega,by have:=hh.2.2.1;omega,by have:=hh.2.2.2;omega,by have:=hh.2.2.2;omega⟩) Ny.out (by rw[Qb.out];exact h) Xv PN (by rw[Qb.out];exact KY);rw[hV,Qb.out] at g;exact g
       have hCk:∀u,cK u B (ζ oa n oc) Os->CB 12 #[φ #[ι ε T,ι ε Lm,ζ oa n oc],ι ε n] u ck:=λu h=>by have g:=Fg _ Os T Lm ht u B h (by have:=KC.out;omega);rw[hn.out,Qt] at g;exact g
       have by1:wr.cell? ⟨gi,oi+dn+j,none⟩=some (ι ε p):=by have:=Z5.rng Zh 0 _ rfl;rw[Nat.mul_one,Nat.add_zero,<- Nat.add_assoc] at this;exact this
       have hgi9:gi<wr:=by obtain⟨_,_,e8,h8,_⟩:=Z5.at Zh;cases e8;have h9:B7<=wr:=(by obtain⟨_,_,_,_,h,_⟩:=Z5;exact h);omega
       change Hid _ at Zh hxp hV Qt hlt9;clear RW;go_upto_region 25 with (fail);refine bR (θ8 Kw S5 G5 M5 Y5 C5 E5 Z5) ?_;clear Rr Ss;rintro v6 ⟨KH,S6,G6,M6,Y6,C6,E6,Z6⟩ Rr;have qS:=af S6;have qY:=af Y6;have qC:=af C6;refine Wq ?_
       repeat (go_big_quiet_step ((first
         | (go_at_call 11;(with_reducible exact cD (hLa9 _ (E6.below (qW _ _ _)))))
         | (go_at_call 12;(with_reducible exact cD (hCk _ (G6.below (qW _ _ _))))))))
       refine bE (θ8 S6 G6 M6 Y6 C6 E6 Z6 KH) ?_;clear Rr;rintro v7 ⟨S7,G7,M7,Y7,C7,E7,Z7,KV⟩ Rr;clear qS qY qC S6 G6 M6 Y6 C6 E6 Z6;go_wp2;go_roundw;case rel=>exact⟨j+1,by go_num,by omega,ρB,G7.below ρE,M7.below ρE,ρB,ρB,E7.below ρE,Z7.below ρE,KV.step0 ρE⟩
       case measure=>simp[intOf] at*;omega
     ·obtain rfl:dn=ym:=by omega
      clear hA;have m1:(dn:Int)<=(yc:Int):=ρa;have MK:dn - dn=0:=Nat.sub_self _;have MG:=Z0.nilc;rcases MG with ⟨rfl,h8,rfl⟩|⟨ad,rfl⟩
      ·have h8':=h8;subst h8';exact ξk
      ·exact ξk
    | cons e r=>
     have Ku:(q:Int)<(en:Int):=ρo;have hd:=qT Ku;have KX:L[q]?=some e:=ρI;have Mu:e ∈ L:=ρS;have Nu:q<en:=ρa;have Zx:B4<=wr:=by obtain⟨_,_,_,_,h,_⟩:=E0;exact h
     obtain⟨g0,off,rfl,hg,RA⟩:=E0.at KX;have OU:g0<wr:=ρa;have hIa:lu c.id 0 (a++[e])=ys++(if dK c.id e=true then [(q:Int)] else []):=by rw[pw,KR,hq,Int.zero_add];simp[lu]
     have hOa:(bC c.id (a++[e])).length=dn+(if dy c.id e=true then 1 else 0):=by rw[cI,qL,Nr,bQ];simp only[show bC c.id []=[] from rfl];split<;>rfl
     have hxs':=ag Kq;have hym9:ym<=1000:=by rw[<- Ul,<- KR,iY];have:=qH (dK c.id) a;simp[ins];omega
     have QY:ys.length<=1000:=ρa;change Hid _ at Kv hq Kq KX KR Nr Ul hIa hOa;go_upto_region 14 with (fail);go_upto_region 15 with (refine Go.wpList_load_mid rfl 52 _ rfl g0 (off+q*12) rfl (ls e) _ RA Tryz.underlying52 rfl ρi ?_;try simp only[ls]);refine jW (θ8 Kj S0 G0 M0 Y0 C0 E0 H0) (λv=>ah v wr #[ι ε e.op,β e.inn,β e.real,e.at_,e.done,ι ε e.cls,e.pk.id,ι ε e.pk.len,ι ω e.pk.h0,ι ω e.pk.h1,ι ω e.pk.h2,ι ω e.pk.h3] 52) ρB ?_;clear Rr Ss;rintro v1 X1 ⟨I',S1,G1,M1,Y1,C1,E1,H1⟩ Rr;replace cX:=X1.cell;replace fX:=X1.frozen;replace zX:=X1.size;by_cases c2:e.cls=c.id
     rotate_left
     ·have d2:(e.cls !=c.id)=true:=by simpa using c2
      have hI2:=ag (show lu c.id 0 (a++[e])=ys by rw[hIa.out,qI (by simp[dK,c2])];simp);have hO2:=ag (show (bC c.id (a++[e])).length=dn by rw[hOa.out,qI (by simp[dy,c2]),Nat.add_zero]);replace c2:=ag c2;go_wp2;go_roundw;case rel=>exact⟨a++[e],r,by rw[qL,hq.out];go_num,by rw[Kq.out];simp,by rw[hO2.out],by rw[hI2.out];exact ae.below H1 ρE,ρB,G1.below ρE,M1.below ρE,ρB,ρB,E1.below ρE,I'.step0 ρE⟩
      case measure=>exact ξb
     have d2:(e.cls !=c.id)=false:=by simp[c2]
     by_cases c3:e.inn=true
     ·have d3:e.inn=true:=c3;have hI2:=ag (show lu c.id 0 (a++[e])=ys++[(q:Int)] by rw[hIa.out,qP (dW.2 ⟨c3,c2⟩)]);have hO2:=ag (show (bC c.id (a++[e])).length=dn by rw[hOa.out,qI (by simp[dy,c3]),Nat.add_zero]);replace c2:=ag c2;go_wp2_with (refine au Tryz.underlying45 bG rfl (λ_=>rfl) ρC ρf ρf rfl (.tmp 60) (.tmp 62) rfl (W+1) (ζ ob ym yc) ys (q:Int) v1 #[ι ε q] rfl ρs ρs (H1.below ρE) ρB ρa ρF ?_;intro o2 v2 H2 kx;replace kx:=kx.of_alloc;have S2:=S1.ko kx (ae.notown H1 ρa);have G2:=G1.ko kx (λy hy=>ae.notown H1 ρa);have M2:=M1.ko kx (λy hy=>ae.notown H1 ρa);have Y2:=Y1.ko kx (ae.notown H1 ρa);have C2:=C1.ko kx (ae.notown H1 ρa);have E2:=E1.ko kx (λy hy=>ae.notown H1 ρa);have X2:=X1.ko kx (λh=>ae.ne_blk H1 X1 ρf h);have J':KO (λ_=>False) w v2:=I'.trans kx σs;have zk2:=J'.size;replace rS:=S2.r;replace rY:=Y2.r;replace rC:=C2.r;replace cX:=X2.cell;replace fX:=X2.frozen;replace zX:=X2.size);go_roundw;case rel=>exact⟨a++[e],r,by rw[qL,hq.out];go_num,by rw[Kq.out];simp,by rw[hO2.out],by rw[hI2.out];exact ae.below H2 ρE,ρB,G2.below ρE,M2.below ρE,ρB,ρB,E2.below ρE,J'.step0 ρE⟩
      case measure=>exact ξb
     have d3:e.inn=false:=by simpa using c3
     have ho:dy c.id e=true:=dI.2 ⟨d3,c2⟩;have hI2:=ag (show lu c.id 0 (a++[e])=ys by rw[hIa.out,qI (by simp[dK,c3])];simp);have hO2:=ag (show (bC c.id (a++[e])).length=dn+1 by rw[hOa.out,qP ho]);obtain⟨p,Lz,PN,RW⟩:=HL.out.picked hxs'.out ho;rw[KR.out,Nr.out] at Lz;obtain⟨gi,oi,e9,hgi,RY⟩:=(ae.rd H1 (λ_=>rfl)).at Lz;subst e9;have hdy:dn<ym:=by rw[<- Ul.out];exact(List.getElem?_eq_some_iff.1 Lz).1
     have d4:=df ((ym:Int)<=(dn:Int));have d4':=df (ym<=dn);have m4:(dn:Int)<(ym:Int):=ρa;obtain⟨V,hV⟩:=Nq (wD T Lm c L c.id p);have QT:e.done<=V:=by rw[<- hV];exact RW _ vj
     have d5:=df (V<e.done);have hLa9:∀u,aK 12 ls u B4 (ζ (some ⟨g0,off,none⟩) en ec) L->CB 11 #[φ #[ι ε T,ι ε Lm],φ (aH c.r0 c.r1 c.r2),ζ (some ⟨g0,off,none⟩) en ec,ι ε c.id,ι ε p] u V:=λu h=>by have g:=vD T Lm c.id p c (some ⟨g0,off,none⟩) ec L u B4 ⟨hT1,hT2⟩ ⟨TV,Nx⟩ (have hh:=HL.out.cin;⟨by have:=hh.2.1;omega,by have:=hh.2.2.1;omega,by have:=hh.2.2.2;omega,by have:=hh.2.2.2;omega⟩) Ny.out (by rw[Qb.out];exact h) Xv PN (by rw[Qb.out];exact KY);rw[hV,Qb.out] at g;exact g
     have by1:v1.cell? ⟨gi,oi+dn,none⟩=some (ι ε p):=by have:=RY 0 _ rfl;simpa using this
     change Hid _ at Lz PN hV QT c2;clear RY RW;go_upto_region 18 with (fail);refine bR (θ9 I' S1 G1 M1 Y1 C1 E1 H1 X1) ?_;clear Rr;rintro v2 ⟨J',S2,G2,M2,Y2,C2,E2,H2,X2⟩ Rr;replace cX:=X2.cell;replace fX:=X2.frozen;replace zX:=X2.size;have qS:=af S2;have qY:=af Y2;have qC:=af C2;have qX:=af X2;have hgi2:gi<v2:=by have:=(ae.rd H2 (λ_=>rfl)).at Lz.out;obtain⟨_,_,e8,h8,_⟩:=this;cases e8;exact h8
     have by2:v2.cell? ⟨gi,oi+dn,none⟩=some (ι ε p):=by have:=(ae.rd H2 (λ_=>rfl)).rng Lz.out 0 _ rfl;simpa using this
     have qy:=λ(d:Nat) os=>((qW v2 d os).cell (p:=⟨gi,oi+dn,none⟩) hgi2).trans by2;refine Wq ?_
     repeat (go_big_quiet_step ((first
       | (go_at_call 11;(with_reducible exact cD (hLa9 _ (E2.below (qW _ _ _))))))))
     refine bE (θ9 S2 G2 M2 Y2 C2 E2 H2 X2 J') ?_;clear Rr;rintro v3 ⟨S3,G3,M3,Y3,C3,E3,H3,X3,Kk⟩ Rr;replace cX:=X3.cell;replace fX:=X3.frozen;replace zX:=X3.size;clear qS qY qC qX S2 G2 M2 Y2 C2 E2 H2 X2;go_wp2;go_roundw;case rel=>exact⟨a++[e],r,by rw[qL,hq.out];go_num,by rw[Kq.out];simp,by rw[hO2.out];go_num,by rw[hI2.out];exact ae.below H3 ρE,ρB,G3.below ρE,M3.below ρE,ρB,ρB,E3.below ρE,Kk.step0 ρE⟩
     case measure=>exact ξb
section
open Go.ChangeShapes Go.WideShapes Go.ChangeAt Go.RowKit
theorem tF {α:Type} {l:List α} (h:l.length=2):∃a0 a1,l=[a0,a1]:=by
 match l,h with
 | [a0,a1],_=>exact⟨a0,a1,rfl⟩
theorem jf {α:Type} {l:List α} (h:l.length=3):∃a0 a1 a2,l=[a0,a1,a2]:=by
 match l,h with
 | [a0,a1,a2],_=>exact⟨a0,a1,a2,rfl⟩
theorem tG {α:Type} {l:List α} (h:l.length=8):∃a0 a1 a2 a3 a4 a5 a6 a7,l=[a0,a1,a2,a3,a4,a5,a6,a7]:=by
 match l,h with
 | [a0,a1,a2,a3,a4,a5,a6,a7],_=>exact⟨a0,a1,a2,a3,a4,a5,a6,a7,rfl⟩
theorem qp {α:Type} {l:List α} (h:l.length=15):∃a0 a1 a2 a3 a4 a5 a6 a7 a8 a9 a10 a11 a12 a13 a14,l=[a0,a1,a2,a3,a4,a5,a6,a7,a8,a9,a10,a11,a12,a13,a14]:=by
 match l,h with
 | [a0,a1,a2,a3,a4,a5,a6,a7,a8,a9,a10,a11,a12,a13,a14],_=>exact⟨a0,a1,a2,a3,a4,a5,a6,a7,a8,a9,a10,a11,a12,a13,a14,rfl⟩
theorem qo {H:Type} {w:ϖ} {base:Nat} {Lb:Nat->Bool} {LG:Bool} {enc:TypeId × ϗ->H} {fuel:Nat} {c0 c1 c2 c3 c4 c5 c6 c7 c8 c9 c10 c11 c12 c13 c14:ϗ} {x:DataW H × List MemPlace} (hf:DataW.trod enc Ψ w base Lb LG fuel 86 [c0,c1,c2,c3,c4,c5,c6,c7,c8,c9,c10,c11,c12,c13,c14]=some x):
  ∃(x0:Int) (x1:Int) (x2:Int) (x3:Bool) (x4:Int) (x5:Int) (x6:Int) (x7:Int) (x8:Int) (x9:Int) (x10:Int) (x11:Int) (x12:Int) (x13:Int) (x14:Int),[c0,c1,c2,c3,c4,c5,c6,c7,c8,c9,c10,c11,c12,c13,c14]=[ι ε x0,ι ε x1,ι ε x2,β x3,x4,x5,x6,x7,x8,x9,x10,x11,x12,ι ε x13,ι ε x14]/\(-Mc<=x0/\x0<=Mb)/\(-Mc<=x1/\x1<=Mb)/\(-Mc<=x2/\x2<=Mb)/\(0<=x4/\x4<=Ma)/\(0<=x5/\x5<=Ma)/\(0<=x6/\x6<=Ma)/\(0<=x7/\x7<=Ma)/\(0<=x8/\x8<=Ma)/\(0<=x9/\x9<=Ma)/\(0<=x10/\x10<=Ma)/\(0<=x11/\x11<=Ma)/\(0<=x12/\x12<=Ma)/\(-Mc<=x13/\x13<=Mb)/\(-Mc<=x14/\x14<=Mb):=by
 have k0:Ψ.cellsOf 86=15:=ρi;have k1:Ψ.cellsOf 3=1:=ρi;have k2:Ψ.cellsOf 43=14:=ρi;have k3:Ψ.cellsOf 4=1:=ρi;have k4:Ψ.cellsOf 41=3:=ρi;have k5:Ψ.cellsOf 39=1:=ρi;obtain⟨ys0,m0,_,_,_,Nk,ML⟩:=DataW.trod_struct Tryz.underlying86 hf;obtain⟨y0_0,y0_1,rfl⟩:=tF Nk;have Pm:=ML 0 _ rfl;have Po:=ML 1 _ rfl;simp[k1,k2] at Pm Po;obtain⟨x0,e0,_,w0⟩:=qY Θ Pm;obtain⟨ys1,m1,_,_,_,UQ,LI⟩:=DataW.trod_struct Tryz.underlying43 Po;obtain⟨y1_0,y1_1,y1_2,y1_3,y1_4,y1_5,y1_6,y1_7,rfl⟩:=tG UQ;have Pp:=LI 0 _ rfl;have Pq:=LI 1 _ rfl;have RC:=LI 2 _ rfl;have Wn:=LI 3 _ rfl;have q1_4:=LI 4 _ rfl;have q1_5:=LI 5 _ rfl;have q1_6:=LI 6 _ rfl;have q1_7:=LI 7 _ rfl;simp[k1,k3,k4] at Pp Pq RC Wn q1_4 q1_5 q1_6 q1_7;obtain⟨x1,e1,_,w1⟩:=qY Θ Pp;obtain⟨x2,e2,_,w2⟩:=qY Θ Pq;obtain⟨x3,e3,_⟩:=DataW.trod_bool Tryz.underlying4 RC;obtain⟨ys2,m2,_,_,_,Py,Pz⟩:=DataW.trod_struct Tryz.underlying41 Wn;obtain⟨y2_0,y2_1,y2_2,rfl⟩:=jf Py;have RD:=Pz 0 _ rfl;have RE:=Pz 1 _ rfl;have RF:=Pz 2 _ rfl;simp[k5] at RD RE RF;obtain⟨x4,e4,_,w4⟩:=qY Ξ RD;obtain⟨x5,e5,_,w5⟩:=qY Ξ RE;obtain⟨x6,e6,_,w6⟩:=qY Ξ RF;obtain⟨ys3,m3,_,_,_,hl3,hx3⟩:=DataW.trod_struct Tryz.underlying41 q1_4;obtain⟨y3_0,y3_1,y3_2,rfl⟩:=jf hl3;have q3_0:=hx3 0 _ rfl;have q3_1:=hx3 1 _ rfl;have q3_2:=hx3 2 _ rfl;simp[k5] at q3_0 q3_1 q3_2;obtain⟨x7,e7,_,w7⟩:=qY Ξ q3_0;obtain⟨x8,e8,_,w8⟩:=qY Ξ q3_1;obtain⟨x9,e9,_,w9⟩:=qY Ξ q3_2;obtain⟨ys4,m4,_,_,_,hl4,hx4⟩:=DataW.trod_struct Tryz.underlying41 q1_5;obtain⟨y4_0,y4_1,y4_2,rfl⟩:=jf hl4;have q4_0:=hx4 0 _ rfl;have q4_1:=hx4 1 _ rfl;have q4_2:=hx4 2 _ rfl;simp[k5] at q4_0 q4_1 q4_2;obtain⟨x10,QM,_,w10⟩:=qY Ξ q4_0;obtain⟨x11,e11,_,w11⟩:=qY Ξ q4_1;obtain⟨x12,e12,_,w12⟩:=qY Ξ q4_2;obtain⟨x13,e13,_,w13⟩:=qY Θ q1_6;obtain⟨x14,e14,_,w14⟩:=qY Θ q1_7;simp at e0 e1 e2 e3 e4 e5 e6 e7 e8 e9 QM e11 e12 e13 e14;subst e0 e1 e2 e3 e4 e5 e6 e7 e8 e9 QM e11 e12 e13 e14;exact⟨x0,x1,x2,x3,x4,x5,x6,x7,x8,x9,x10,x11,x12,x13,x14,rfl,bounds_i64 w0,bounds_i64 w1,bounds_i64 w2,bounds_u64 w4,bounds_u64 w5,bounds_u64 w6,bounds_u64 w7,bounds_u64 w8,bounds_u64 w9,bounds_u64 w10,bounds_u64 w11,bounds_u64 w12,bounds_i64 w13,bounds_i64 w14⟩
theorem xg {α:Type} {l:List α} (h:l.length=3):∃a0 a1 a2,l=[a0,a1,a2]:=by
 match l,h with
 | [a0,a1,a2],_=>exact⟨a0,a1,a2,rfl⟩
theorem ox {α:Type} {l:List α} (h:l.length=4):∃a0 a1 a2 a3,l=[a0,a1,a2,a3]:=by
 match l,h with
 | [a0,a1,a2,a3],_=>exact⟨a0,a1,a2,a3,rfl⟩
theorem xh {α:Type} {l:List α} (h:l.length=9):∃a0 a1 a2 a3 a4 a5 a6 a7 a8,l=[a0,a1,a2,a3,a4,a5,a6,a7,a8]:=by
 match l,h with
 | [a0,a1,a2,a3,a4,a5,a6,a7,a8],_=>exact⟨a0,a1,a2,a3,a4,a5,a6,a7,a8,rfl⟩
theorem tD {H:Type} {w:ϖ} {base:Nat} {Lb:Nat->Bool} {LG:Bool} {enc:TypeId × ϗ->H} {fuel:Nat} {c0 c1 c2 c3 c4 c5 c6 c7 c8:ϗ} {x:DataW H × List MemPlace} (hf:DataW.trod enc Ψ w base Lb LG fuel 88 [c0,c1,c2,c3,c4,c5,c6,c7,c8]=some x):
  ∃(x0:Int) (x1:Int) (x2:Int) (x3:Int) (x4:Int) (x5:Int) (x6:Int) (x7:Int) (x8:Int),[c0,c1,c2,c3,c4,c5,c6,c7,c8]=[ι ω x0,ι ω x1,ι ω x2,ι ω x3,ι ω x4,ι ω x5,ι ω x6,ι ω x7,ι ε x8]/\(0<=x0/\x0<=65535)/\(0<=x1/\x1<=65535)/\(0<=x2/\x2<=65535)/\(0<=x3/\x3<=65535)/\(0<=x4/\x4<=65535)/\(0<=x5/\x5<=65535)/\(0<=x6/\x6<=65535)/\(0<=x7/\x7<=65535)/\(-Mc<=x8/\x8<=Mb):=by
 have k0:Ψ.cellsOf 88=9:=ρi;have k1:Ψ.cellsOf 48=4:=ρi;have k2:Ψ.cellsOf 46=1:=ρi;have k3:Ψ.cellsOf 3=1:=ρi;obtain⟨ys0,m0,_,_,_,Nk,ML⟩:=DataW.trod_struct Tryz.underlying88 hf;obtain⟨y0_0,y0_1,y0_2,rfl⟩:=xg Nk;have Pm:=ML 0 _ rfl;have Po:=ML 1 _ rfl;have Wm:=ML 2 _ rfl;simp[k1,k3] at Pm Po Wm;obtain⟨ys1,m1,_,_,_,UQ,LI⟩:=DataW.trod_array Tryz.underlying48 Pm;obtain⟨y1_0,y1_1,y1_2,y1_3,rfl⟩:=ox UQ;have Pp:=LI 0 ρp;have Pq:=LI 1 ρp;have RC:=LI 2 ρp;have Wn:=LI 3 ρp;simp[k2] at Pp Pq RC Wn;obtain⟨x0,e0,_,w0⟩:=qY Tryz.underlying46 Pp;obtain⟨x1,e1,_,w1⟩:=qY Tryz.underlying46 Pq;obtain⟨x2,e2,_,w2⟩:=qY Tryz.underlying46 RC;obtain⟨x3,e3,_,w3⟩:=qY Tryz.underlying46 Wn;obtain⟨ys2,m2,_,_,_,Py,Pz⟩:=DataW.trod_array Tryz.underlying48 Po;obtain⟨y2_0,y2_1,y2_2,y2_3,rfl⟩:=ox Py;have RD:=Pz 0 ρp;have RE:=Pz 1 ρp;have RF:=Pz 2 ρp;have Wo:=Pz 3 ρp;simp[k2] at RD RE RF Wo;obtain⟨x4,e4,_,w4⟩:=qY Tryz.underlying46 RD;obtain⟨x5,e5,_,w5⟩:=qY Tryz.underlying46 RE;obtain⟨x6,e6,_,w6⟩:=qY Tryz.underlying46 RF;obtain⟨x7,e7,_,w7⟩:=qY Tryz.underlying46 Wo;obtain⟨x8,e8,_,w8⟩:=qY Θ Wm;simp at e0 e1 e2 e3 e4 e5 e6 e7 e8;subst e0 e1 e2 e3 e4 e5 e6 e7 e8;exact⟨x0,x1,x2,x3,x4,x5,x6,x7,x8,rfl,bounds_u16 w0,bounds_u16 w1,bounds_u16 w2,bounds_u16 w3,bounds_u16 w4,bounds_u16 w5,bounds_u16 w6,bounds_u16 w7,bounds_i64 w8⟩
theorem wR {α:Type} {l:List α} (h:l.length=3):∃a0 a1 a2,l=[a0,a1,a2]:=by
 match l,h with
 | [a0,a1,a2],_=>exact⟨a0,a1,a2,rfl⟩
theorem wS {α:Type} {l:List α} (h:l.length=4):∃a0 a1 a2 a3,l=[a0,a1,a2,a3]:=by
 match l,h with
 | [a0,a1,a2,a3],_=>exact⟨a0,a1,a2,a3,rfl⟩
theorem wT {α:Type} {l:List α} (h:l.length=5):∃a0 a1 a2 a3 a4,l=[a0,a1,a2,a3,a4]:=by
 match l,h with
 | [a0,a1,a2,a3,a4],_=>exact⟨a0,a1,a2,a3,a4,rfl⟩
theorem t6 {α:Type} {l:List α} (h:l.length=10):∃a0 a1 a2 a3 a4 a5 a6 a7 a8 a9,l=[a0,a1,a2,a3,a4,a5,a6,a7,a8,a9]:=by
 match l,h with
 | [a0,a1,a2,a3,a4,a5,a6,a7,a8,a9],_=>exact⟨a0,a1,a2,a3,a4,a5,a6,a7,a8,a9,rfl⟩
theorem tC {H:Type} {w:ϖ} {base:Nat} {Lb:Nat->Bool} {LG:Bool} {enc:TypeId × ϗ->H} {fuel:Nat} {c0 c1 c2 c3 c4 c5 c6 c7 c8 c9:ϗ} {x:DataW H × List MemPlace} (hf:DataW.trod enc Ψ w base Lb LG fuel 80 [c0,c1,c2,c3,c4,c5,c6,c7,c8,c9]=some x):
  ∃(x0:Int) (x3:Int) (x4:Int) (x5:Int) (x6:Int) (x7:Int) (x8:Int) (x9:Int),[c0,c1,c2,c3,c4,c5,c6,c7,c8,c9]=[ι ε x0,c1,c2,x3,ι ε x4,ι ω x5,ι ω x6,ι ω x7,ι ω x8,x9]/\(-Mc<=x0/\x0<=Mb)/\(0<=x3/\x3<=Ma)/\(-Mc<=x4/\x4<=Mb)/\(0<=x5/\x5<=65535)/\(0<=x6/\x6<=65535)/\(0<=x7/\x7<=65535)/\(0<=x8/\x8<=65535)/\(0<=x9/\x9<=Ma)/\(∃f y,DataW.trod enc Ψ w base Lb LG f 77 [c1]=some y)/\(∃f y,DataW.trod enc Ψ w base Lb LG f 78 [c2]=some y):=by
 have k0:Ψ.cellsOf 80=10:=ρi;have k1:Ψ.cellsOf 3=1:=ρi;have k2:Ψ.cellsOf 77=1:=ρi;have k3:Ψ.cellsOf 78=1:=ρi;have k4:Ψ.cellsOf 50=6:=ρi;have k5:Ψ.cellsOf 39=1:=ρi;have k6:Ψ.cellsOf 48=4:=ρi;have k7:Ψ.cellsOf 46=1:=ρi;obtain⟨ys0,m0,_,_,_,Nk,ML⟩:=DataW.trod_struct Tryz.underlying80 hf;obtain⟨y0_0,y0_1,y0_2,y0_3,y0_4,rfl⟩:=wT Nk;have Pm:=ML 0 _ rfl;have Po:=ML 1 _ rfl;have Wm:=ML 2 _ rfl;have q0_3:=ML 3 _ rfl;have q0_4:=ML 4 _ rfl;simp[k1,k2,k3,k4,k5] at Pm Po Wm q0_3 q0_4;obtain⟨x0,e0,_,w0⟩:=qY Θ Pm;have s1:=Po;have s2:=Wm;obtain⟨ys1,m1,_,_,_,UQ,LI⟩:=DataW.trod_struct Tryz.underlying50 q0_3;obtain⟨y1_0,y1_1,y1_2,rfl⟩:=wR UQ;have Pp:=LI 0 _ rfl;have Pq:=LI 1 _ rfl;have RC:=LI 2 _ rfl;simp[k1,k5,k6] at Pp Pq RC;obtain⟨x3,e3,_,w3⟩:=qY Ξ Pp;obtain⟨x4,e4,_,w4⟩:=qY Θ Pq;obtain⟨ys2,m2,_,_,_,Py,Pz⟩:=DataW.trod_array Tryz.underlying48 RC;obtain⟨y2_0,y2_1,y2_2,y2_3,rfl⟩:=wS Py;have RD:=Pz 0 ρp;have RE:=Pz 1 ρp;have RF:=Pz 2 ρp;have Wo:=Pz 3 ρp;simp[k7] at RD RE RF Wo;obtain⟨x5,e5,_,w5⟩:=qY Tryz.underlying46 RD;obtain⟨x6,e6,_,w6⟩:=qY Tryz.underlying46 RE;obtain⟨x7,e7,_,w7⟩:=qY Tryz.underlying46 RF;obtain⟨x8,e8,_,w8⟩:=qY Tryz.underlying46 Wo;obtain⟨x9,e9,_,w9⟩:=qY Ξ q0_4;simp at e0 e3 e4 e5 e6 e7 e8 e9;subst e0 e3 e4 e5 e6 e7 e8 e9;exact⟨x0,x3,x4,x5,x6,x7,x8,x9,rfl,bounds_i64 w0,bounds_u64 w3,bounds_i64 w4,bounds_u16 w5,bounds_u16 w6,bounds_u16 w7,bounds_u16 w8,bounds_u64 w9,⟨_,_,s1⟩,⟨_,_,s2⟩⟩
theorem oG {α:Type} {l:List α} (h:l.length=2):∃a0 a1,l=[a0,a1]:=by
 match l,h with
 | [a0,a1],_=>exact⟨a0,a1,rfl⟩
theorem xl {α:Type} {l:List α} (h:l.length=3):∃a0 a1 a2,l=[a0,a1,a2]:=by
 match l,h with
 | [a0,a1,a2],_=>exact⟨a0,a1,a2,rfl⟩
theorem tE {H:Type} {w:ϖ} {base:Nat} {Lb:Nat->Bool} {LG:Bool} {enc:TypeId × ϗ->H} {fuel:Nat} {c0 c1 c2:ϗ} {x:DataW H × List MemPlace} (hf:DataW.trod enc Ψ w base Lb LG fuel 26 [c0,c1,c2]=some x):
  ∃(x0:Int) (x1:Int),[c0,c1,c2]=[ι ε x0,ι ε x1,c2]/\(-Mc<=x0/\x0<=Mb)/\(-Mc<=x1/\x1<=Mb)/\(∃f y,DataW.trod enc Ψ w base Lb LG f 24 [c2]=some y):=by
 have k0:Ψ.cellsOf 26=3:=ρi;have k1:Ψ.cellsOf 23=2:=ρi;have k2:Ψ.cellsOf 3=1:=ρi;have k3:Ψ.cellsOf 24=1:=ρi;obtain⟨ys0,m0,_,_,_,Nk,ML⟩:=DataW.trod_struct Tryz.underlying26 hf;obtain⟨y0_0,y0_1,rfl⟩:=oG Nk;have Pm:=ML 0 _ rfl;have Po:=ML 1 _ rfl;simp[k1,k3] at Pm Po;obtain⟨ys1,m1,_,_,_,UQ,LI⟩:=DataW.trod_struct Tryz.underlying23 Pm;obtain⟨y1_0,y1_1,rfl⟩:=oG UQ;have Pp:=LI 0 _ rfl;have Pq:=LI 1 _ rfl;simp[k2] at Pp Pq;obtain⟨x0,e0,_,w0⟩:=qY Θ Pp;obtain⟨x1,e1,_,w1⟩:=qY Θ Pq;have s2:=Po;simp at e0 e1;subst e0 e1;exact⟨x0,x1,rfl,bounds_i64 w0,bounds_i64 w1,⟨_,_,s2⟩⟩
theorem vl {α:Type} {P:Nat->α->Prop}:∀n:Nat,(∀i,i<n->∃a,P i a)->∃L:List α,L.length=n/\∀i a,L[i]?=some a->P i a
 | 0,_=>⟨[],rfl,λi a h=>by simp at h⟩
 | n+1,h=>by
  obtain⟨L,h1,h2⟩:=vl n (λi hi=>h i ρa);obtain⟨a,ha⟩:=h n ρa;refine⟨L++[a],by simp[h1],λi b hb=>?_⟩;by_cases g:i<n
  ·rw[List.getElem?_append_left ρa] at hb;exact h2 i b hb
  ·rw[List.getElem?_append_right ρa] at hb;have:i - L.length=0:=by
    apply Dl;intro g2;obtain⟨k,hk⟩:∃k,i - L.length=k+1:=⟨i - L.length - 1,by omega⟩;rw[hk] at hb;simp at hb
   rw[this] at hb;simp at hb;have:i=n:=ρa;subst this;rw[<- hb];exact ha
theorem n7 {α:Type} (R:α->List ϗ->Prop) {n:Nat} {ety sty:TypeId} {H:Type} {w:ϖ} {base:Nat} {Lb:Nat->Bool} {LG:Bool} {enc:TypeId × ϗ->H} {fuel:Nat} {v:ϗ} {x:DataW H × List MemPlace} (hu:Ψ.underlying sty=some (.slice ety))(hN:Ψ.cellsOf ety=n)(LQ:0<n)
  (UP:∀fuel cs x,DataW.trod enc Ψ w base Lb LG fuel ety cs=some x->cs.length=n->∃a,R a cs) (h:DataW.trod enc Ψ w base Lb LG fuel sty [v]=some x):
  ∃(s:Option Addr) (Kt:Nat) (L:List α),v=ζ s L.length Kt/\L.length<=maxLen/\(s=none->Kt=0/\L=[])/\(L≠[]->∃g off,s=some ⟨g,off,none⟩/\g<w.heap.size/\∀i a,L[i]?=some a->∃cs,R a cs/\w.rangeAt g (off+i*n) cs):=by
 rcases Go.Deep.open_slice hu h with ⟨MG,_⟩|⟨a,len',PF,m,n',D,Pl,MG,hb,hl,hm,UV,hx,hi⟩
 ·simp at MG;exact⟨none,0,[],MG,by simp,λ_=>⟨rfl,rfl⟩,λg=>ax rfl g⟩
 ·simp at MG;have hlm:len'<=m:=by rw[UV];split<;>omega
  rw[hN] at hi;have KW:∀i,i<len'->∃y:α,∃cs,R y cs/\cs.length=n/\∀j,j<n->w.cell? ((a.add (i*n)).add j)=cs[j]?:=by intro i hil;obtain⟨cs',hc,ht⟩:=hi i ρa;obtain⟨_,KC,MF⟩:=World.cells?_some hc;obtain⟨y,hy⟩:=UP _ _ _ ht KC;exact⟨y,cs',hy,KC,MF⟩
  obtain⟨L,hL,hP⟩:=vl len' KW;refine⟨some a,PF,L,by rw[hL];exact MG,by omega,λe=>(by cases e),λKI=>?_⟩;have h0:0<len':=by rw[<- hL];exact List.length_pos_iff.2 KI
  obtain⟨b,off,spot⟩:=a;have first:∃u,w.cell? ⟨b,off,spot⟩=some u:=by obtain⟨y,cs,_,Py,MF⟩:=KW 0 h0;have:=MF 0 LQ;rw[Nat.zero_mul] at this;exact⟨cs[0]'ρa,by simpa [Addr.add,List.getElem?_eq_getElem (show 0<cs.length by omega)] using this⟩
  obtain⟨u,hu0⟩:=first;have hspot:spot=none:=World.cell?_spot hu0;subst hspot;refine⟨b,off,rfl,?_,λi y hy=>?_⟩
  ·by_cases hb:b<w
   ·exact hb
   ·simp[World.cell?,Array.getElem?_eq_none (show w.heap.size<=b by omega)] at hu0
  ·obtain⟨cs,h1,h2,h3⟩:=hP i y hy;refine⟨cs,h1,λj z hj=>?_⟩;have hjn:j<n:=by rw[<- h2];exact(List.getElem?_eq_some_iff.1 hj).1
   have h4:=h3 j hjn;rw[hj] at h4;rw[Go.Deep.add_add] at h4;unfold Addr.add at h4;by_cases g0:i*n+j=0
   ·rw[qP g0] at h4;rw[show off+i*n+j=off by omega];exact h4
   ·rw[qI g0] at h4;rw[show off+i*n+j=off+(i*n+j) by omega];exact h4
theorem vx {α:Type} {enc2:α->List ϗ} (P:α->Prop) {n:Nat} {ety sty:TypeId} {H:Type} {w:ϖ} {base:Nat} {Lb:Nat->Bool} {LG:Bool} {enc:TypeId × ϗ->H} {fuel:Nat} {v:ϗ} {x:DataW H × List MemPlace} (hu:Ψ.underlying sty=some (.slice ety))(hN:Ψ.cellsOf ety=n)(LQ:0<n)
  (UP:∀fuel cs x,DataW.trod enc Ψ w base Lb LG fuel ety cs=some x->cs.length=n->∃a,cs=enc2 a/\P a) (h:DataW.trod enc Ψ w base Lb LG fuel sty [v]=some x):
  ∃L:List α,aK n enc2 w w v L/\∀a ∈ L,P a:=by
 obtain⟨s,Kt,L,h1,h2,h3,h4⟩:=n7 (λa cs=>cs=enc2 a/\P a) hu hN LQ UP h;refine⟨L,⟨s,Kt,h1,h2,qR _,h3,λKI=>?_⟩,λa ha=>?_⟩
 ·obtain⟨g,off,e,hg,MF⟩:=h4 KI;refine⟨g,off,e,hg,λi y hy=>?_⟩;obtain⟨cs,⟨rfl,_⟩,hr⟩:=MF i y hy;exact hr
 ·obtain⟨i,hi⟩:=List.getElem?_of_mem ha;obtain⟨g,off,e,hg,MF⟩:=h4 (λe=>by rw[e] at ha;cases ha);obtain⟨cs,⟨_,hp⟩,_⟩:=MF i a hi;exact hp
def AZ (x:OI):Prop:=(∀c ∈ x.ch,CN c.2)/\0<=x.tk/\x.tk<=Ma
theorem BN {H:Type} {w:ϖ} {base:Nat} {Lb:Nat->Bool} {LG:Bool} {enc:TypeId × ϗ->H} {fuel:Nat} {cs:List ϗ} {x:DataW H × List MemPlace} (h:DataW.trod enc Ψ w base Lb LG fuel 80 cs=some x)(hl:cs.length=10):∃a:OI,jp w w a cs/\AZ a:=by
 obtain⟨y0,y1,y2,y3,y4,y5,y6,y7,y8,y9,rfl⟩:=t6 hl;obtain⟨x0,x3,x4,x5,x6,x7,x8,x9,e,-,-,-,-,-,-,-,hb,⟨f1,z1,t1⟩,⟨f2,z2,t2⟩⟩:=tC h;obtain⟨ch,K8,LD⟩:=vx (enc2:=pX) (λc=>CN c.2) Tryz.underlying77 (show Ψ.cellsOf 86=15 by kernel_rfl) ρa (λf cs y hf hc=>by obtain⟨u0,u1,u2,u3,u4,u5,u6,u7,u8,u9,u10,u11,u12,u13,u14,rfl⟩:=qp hc;obtain⟨v0,v1,v2,v3,v4,v5,v6,v7,v8,v9,Ps,MN,OY,QE,Zt,e,-,-,-,b4,b5,b6,b7,b8,b9,b10,b11,b12,-,-⟩:=qo hf;exact⟨(v0,⟨v1,v2,v3,v4,v5,v6,v7,v8,v9,Ps,MN,OY,QE,Zt⟩),e,⟨b4.1,b5.1,b6.1⟩,⟨b7.1,b8.1,b9.1⟩,b10.1,b11.1,b12.1⟩) t1
 obtain⟨rl,Nv,-⟩:=vx (enc2:=qc) (λ_=>True) Tryz.underlying78 (show Ψ.cellsOf 88=9 by kernel_rfl) ρa (λf cs y hf hc=>by obtain⟨u0,u1,u2,u3,u4,u5,u6,u7,u8,rfl⟩:=xh hc;obtain⟨v0,v1,v2,v3,v4,v5,v6,v7,v8,e,-⟩:=tD hf;exact⟨⟨⟨v0,v1,v2,v3⟩,⟨v4,v5,v6,v7⟩,v8⟩,e,trivial⟩) t2
 exact⟨⟨x0,ch,rl,⟨x3,x4,x5,x6,x7,x8⟩,x9⟩,⟨y1,y2,e,K8,Nv⟩,LD,hb⟩
theorem rI {H:Type} {w:ϖ} {base:Nat} {Lb:Nat->Bool} {LG:Bool} {enc:TypeId × ϗ->H} {r:Reach} {b0:Nat} {v:ϗ} {d:DataW H} {p:List MemPlace} (hv:Value.okWide Ψ w r b0 26 v)(h:DataW.Trod enc Ψ w base Lb LG 26 v d p):
  ∃(T Lm:Int) (u:ϗ) (L:List OI),v=φ #[ι ε T,ι ε Lm,u]/\cK w w u L/\∀x ∈ L,AZ x:=by
 obtain⟨cs,rfl,MH⟩:=okWide_struct Tryz.underlying26 hv;obtain⟨l⟩:=cs;obtain⟨c0,c1,c2,rfl⟩:=xl (l:=l) (MH.trans (show Ψ.cellsOf 26=3 by kernel_rfl));obtain⟨fuel,hf⟩:=h;obtain⟨T,Lm,e,-,-,⟨f,y,t⟩⟩:=tE (x:=(d,p)) (show DataW.trod enc Ψ w base Lb LG fuel 26 [c0,c1,c2]=some (d,p) by simpa [Value.cells] using hf);simp at e;obtain⟨rfl,rfl⟩:=e;obtain⟨s,Kt,L,rfl,h2,h3,h4⟩:=n7 (λa cs=>jp w w a cs/\AZ a) Tryz.underlying24 (show Ψ.cellsOf 80=10 by kernel_rfl) ρa (λf cs y hf hc=>BN hf hc) t;refine⟨T,Lm,_,L,rfl,⟨s,Kt,rfl,h2,qR _,λi x hi=>?_⟩,λx hx=>?_⟩
 ·obtain⟨g,off,e,hg,MF⟩:=h4 (λe=>by rw[e] at hi;simp at hi);obtain⟨cs,⟨ho,_⟩,hr⟩:=MF i x hi;exact⟨g,off,cs,e,hg,ho,hr⟩
 ·obtain⟨i,hi⟩:=List.getElem?_of_mem hx;obtain⟨g,off,e,hg,MF⟩:=h4 (λe=>by rw[e] at hx;cases hx);obtain⟨cs,⟨_,ho⟩,_⟩:=MF i x hi;exact ho
end
theorem FO (v:ϗ)(B:Nat)(w:ϖ)(G:iw w B v EJ):Calls Ψ 9 #[φ #[Ko,ι ε 100,v]] w λe w'=>∃rs ev a b,e=ϰ (χ #[φ #[rs,ev],Kz])/\cG w' w ev [⟨2,true,false,0,0,1,pA⟩,⟨2,false,a,0,100,1,pA⟩,⟨3,true,false,0,0,1,pA⟩,⟨4,false,b,100,200,1,pA⟩]/\(∃ra rn rc,rs=ζ ra rn rc)/\Below w w w':=by
 have F:nF w B 1 ⟨1,[(1,cA)],[],PK.zero,0⟩ [cA] (·=0):=by
  refine⟨rfl,by decide,λc hc hl=>?_,rfl,λcv RR Tb Mb w1 hb ht=>?_⟩
  ·rw[qS] at hc;subst hc;decide
  have VM:aK 15 pX w1 B cv [(1,cA)]:=RR.belowK hb (by obtain⟨_,_,_,_,h,_⟩:=RR;exact h);refine(sU yj Tb Mb [] 1 cv [(1,cA)] B w1 ht ρf ρf VM (by obtain⟨_,_,_,_,h,_⟩:=VM;exact h) ⟨λ_=>⟨[],rfl,by decide⟩,trivial⟩ (λc hc=>by rw[qS] at hc;subst hc;decide) ρf).mono ?_;rintro e w2 ⟨u,i,n,rfl,h1,h2,h3⟩;have hn:n=0:=by
   refine h2 ⟨rfl,λys hu=>?_,?_⟩ ρf
   ·have:ys=[]:=by
     cases ys with
     | nil=>rfl
     | cons y r=>obtain⟨c,hc,_⟩:=hu;cases hc
    subst this;refine⟨by decide,by decide,by decide,rfl,by decide⟩
   ·show aN _ [cA]=[];unfold aN;rw[show List.filter (λc:CD=>dv (Go.Proofs.YtfdlemkplejdnaaGreat.kd c.r0 c.r1 c.r2)) [cA]=[] from rfl];simp
  exact⟨u,i,n,rfl,hn,h1,h3⟩
 have K7:∀y0,nj 1 100 [cA] (·=0) y0->y0.Ok:=λy0 h0=>by
  rcases h0 with ⟨_,_,_,rfl⟩|⟨_,rfl⟩
  ·exact f7.ok nh.nil ρp lc.nil ρf ρf
  ·exact f7.ok nh.cA ρf lc.cA ρf ρf
 refine(Ik 1 100 ρf ρf _ _ [cA] (·=0) v B w G F K7 ρf (λx hx=>?_)).mono ?_
 ·simp only[qC,List.not_mem_nil,or_false] at hx;rcases hx with rfl|rfl|rfl|rfl<;>exact⟨by decide,⟨by decide,by decide⟩⟩
 rintro e w' ⟨rs,ev,z,y,rfl,h1,h2,h3⟩;obtain⟨a,b,he⟩:=oX h1;rw[he] at h2;exact⟨rs,ev,a,b,rfl,h2,h3⟩
theorem ah.mid {w:ϖ} {g:Nat} {t:TypeId} {cells:Array ϗ} (H:ah w g cells t)(A cs C:List ϗ)(off:Nat)(ho:off=A.length)(e:cells=(A++(cs++C)).toArray):w.rangeAt g off cs:=λj u hj=>by
 have Ku:j<cs.length:=by
  rcases Nat.lt_or_ge j cs.length with g|g
  ·exact g
  ·rw[List.getElem?_eq_none g] at hj;cases hj
 rw[H.cell,e,List.getElem?_toArray,ho,List.getElem?_append_right ρa,Nat.add_sub_cancel_left,List.getElem?_append_left Ku];exact hj
theorem DO (u v:ϖ)(z1:v.heap.size=u+1+1+1+1+1+1)(C1:ah v (u+1+1) #[ι ε 1,ι ε 1,ι ε 0,β true,ι υ 0,ι υ 0,ι υ 0,ι υ 65536,ι υ 0,ι υ 65536,ι υ 0,ι υ 0,ι υ 0,ι ε 3,ι ε 300] 86)(R1:ah v (u+1+1+1) #[ι ω 0,ι ω 0,ι ω 0,ι ω 0,ι ω 0,ι ω 0,ι ω 0,ι ω 0,ι ε 1] 88)(O1:ah v (u+1+1+1+1) #[ι ε 1,ζ (some ⟨u+1+1,0,none⟩) 1 1,ζ none 0 0,ι υ 0,ι ε 0,ι ω 0,ι ω 0,ι ω 0,ι ω 0,ι υ 0,ι ε 2,ζ none 0 0,ζ (some ⟨u+1+1+1,0,none⟩) 1 1,ι υ 0,ι ε 0,ι ω 0,ι ω 0,ι ω 0,ι ω 0,ι υ 0,ι ε 3,ζ none 0 0,ζ none 0 0,ι υ 7,ι ε 100,ι ω 0,ι ω 0,ι ω 0,ι ω 0,ι υ 0,ι ε 3,ζ none 0 0,ζ none 0 0,ι υ 7,ι ε 100,ι ω 0,ι ω 0,ι ω 0,ι ω 0,ι υ 0,ι ε 4,ζ none 0 0,ζ none 0 0,ι υ 0,ι ε 0,ι ω 0,ι ω 0,ι ω 0,ι ω 0,ι υ 150] 80):iw v v (ζ (some ⟨u+1+1+1+1,0,none⟩) 5 5) EJ:=by
 have c1:aK 15 pX v v (ζ (some ⟨u+1+1,0,none⟩) 1 1) [(1,cA)]:=ae.rd (base:=0) (ae.one (x:=((1,cA):Int × CD)) C1 rfl (Nat.zero_le _) rfl) (λ_=>rfl);have c0:aK 15 pX v v (ζ none 0 0) []:=ae.rd (e:=86) (base:=0) (ae.nil v 0) (λ_=>rfl);have r1:aK 9 qc v v (ζ (some ⟨u+1+1+1,0,none⟩) 1 1) [rA]:=ae.rd (base:=0) (ae.one (x:=rA) R1 rfl (Nat.zero_le _) rfl) (λ_=>rfl);have r0:aK 9 qc v v (ζ none 0 0) []:=ae.rd (e:=88) (base:=0) (ae.nil v 0) (λ_=>rfl);refine⟨some ⟨u+1+1+1+1,0,none⟩,5,rfl,by decide,qR _,λi x hi=>?_⟩
 match i,hi with
 | 0,hi=>cases hi;exact⟨_,0,_,rfl,by omega,⟨_,_,rfl,c1,r0⟩,ah.mid O1 ([]:List ϗ) _ [ι ε 2,ζ none 0 0,ζ (some ⟨u+1+1+1,0,none⟩) 1 1,ι υ 0,ι ε 0,ι ω 0,ι ω 0,ι ω 0,ι ω 0,ι υ 0,ι ε 3,ζ none 0 0,ζ none 0 0,ι υ 7,ι ε 100,ι ω 0,ι ω 0,ι ω 0,ι ω 0,ι υ 0,ι ε 3,ζ none 0 0,ζ none 0 0,ι υ 7,ι ε 100,ι ω 0,ι ω 0,ι ω 0,ι ω 0,ι υ 0,ι ε 4,ζ none 0 0,ζ none 0 0,ι υ 0,ι ε 0,ι ω 0,ι ω 0,ι ω 0,ι ω 0,ι υ 150] _ rfl rfl⟩
 | 1,hi=>cases hi;exact⟨_,0,_,rfl,by omega,⟨_,_,rfl,c0,r1⟩,ah.mid O1 [ι ε 1,ζ (some ⟨u+1+1,0,none⟩) 1 1,ζ none 0 0,ι υ 0,ι ε 0,ι ω 0,ι ω 0,ι ω 0,ι ω 0,ι υ 0] _ [ι ε 3,ζ none 0 0,ζ none 0 0,ι υ 7,ι ε 100,ι ω 0,ι ω 0,ι ω 0,ι ω 0,ι υ 0,ι ε 3,ζ none 0 0,ζ none 0 0,ι υ 7,ι ε 100,ι ω 0,ι ω 0,ι ω 0,ι ω 0,ι υ 0,ι ε 4,ζ none 0 0,ζ none 0 0,ι υ 0,ι ε 0,ι ω 0,ι ω 0,ι ω 0,ι ω 0,ι υ 150] _ rfl rfl⟩
 | 2,hi=>cases hi;exact⟨_,0,_,rfl,by omega,⟨_,_,rfl,c0,r0⟩,ah.mid O1 [ι ε 1,ζ (some ⟨u+1+1,0,none⟩) 1 1,ζ none 0 0,ι υ 0,ι ε 0,ι ω 0,ι ω 0,ι ω 0,ι ω 0,ι υ 0,ι ε 2,ζ none 0 0,ζ (some ⟨u+1+1+1,0,none⟩) 1 1,ι υ 0,ι ε 0,ι ω 0,ι ω 0,ι ω 0,ι ω 0,ι υ 0] _ [ι ε 3,ζ none 0 0,ζ none 0 0,ι υ 7,ι ε 100,ι ω 0,ι ω 0,ι ω 0,ι ω 0,ι υ 0,ι ε 4,ζ none 0 0,ζ none 0 0,ι υ 0,ι ε 0,ι ω 0,ι ω 0,ι ω 0,ι ω 0,ι υ 150] _ rfl rfl⟩
 | 3,hi=>cases hi;exact⟨_,0,_,rfl,by omega,⟨_,_,rfl,c0,r0⟩,ah.mid O1 [ι ε 1,ζ (some ⟨u+1+1,0,none⟩) 1 1,ζ none 0 0,ι υ 0,ι ε 0,ι ω 0,ι ω 0,ι ω 0,ι ω 0,ι υ 0,ι ε 2,ζ none 0 0,ζ (some ⟨u+1+1+1,0,none⟩) 1 1,ι υ 0,ι ε 0,ι ω 0,ι ω 0,ι ω 0,ι ω 0,ι υ 0,ι ε 3,ζ none 0 0,ζ none 0 0,ι υ 7,ι ε 100,ι ω 0,ι ω 0,ι ω 0,ι ω 0,ι υ 0] _ [ι ε 4,ζ none 0 0,ζ none 0 0,ι υ 0,ι ε 0,ι ω 0,ι ω 0,ι ω 0,ι ω 0,ι υ 150] _ rfl rfl⟩
 | 4,hi=>cases hi;exact⟨_,0,_,rfl,by omega,⟨_,_,rfl,c0,r0⟩,ah.mid O1 [ι ε 1,ζ (some ⟨u+1+1,0,none⟩) 1 1,ζ none 0 0,ι υ 0,ι ε 0,ι ω 0,ι ω 0,ι ω 0,ι ω 0,ι υ 0,ι ε 2,ζ none 0 0,ζ (some ⟨u+1+1+1,0,none⟩) 1 1,ι υ 0,ι ε 0,ι ω 0,ι ω 0,ι ω 0,ι ω 0,ι υ 0,ι ε 3,ζ none 0 0,ζ none 0 0,ι υ 7,ι ε 100,ι ω 0,ι ω 0,ι ω 0,ι ω 0,ι υ 0,ι ε 3,ζ none 0 0,ζ none 0 0,ι υ 7,ι ε 100,ι ω 0,ι ω 0,ι ω 0,ι ω 0,ι υ 0] _ [] _ rfl rfl⟩
 | n+5,hi=>cases hi
theorem Bb:uR:=by
 intro u;unfold CB;go_in;go_upto_region 4 with (fail);refine aV u (λv=>Below u u v) (λv=>Below u u v/\v.heap.size=u+1+1+1+1+1+1/\ah v (u+1+1) #[ι ε 1,ι ε 1,ι ε 0,β true,ι υ 0,ι υ 0,ι υ 0,ι υ 65536,ι υ 0,ι υ 65536,ι υ 0,ι υ 0,ι υ 0,ι ε 3,ι ε 300] 86/\ah v (u+1+1+1) #[ι ω 0,ι ω 0,ι ω 0,ι ω 0,ι ω 0,ι ω 0,ι ω 0,ι ω 0,ι ε 1] 88/\ah v (u+1+1+1+1) #[ι ε 1,ζ (some ⟨u+1+1,0,none⟩) 1 1,ζ none 0 0,ι υ 0,ι ε 0,ι ω 0,ι ω 0,ι ω 0,ι ω 0,ι υ 0,ι ε 2,ζ none 0 0,ζ (some ⟨u+1+1+1,0,none⟩) 1 1,ι υ 0,ι ε 0,ι ω 0,ι ω 0,ι ω 0,ι ω 0,ι υ 0,ι ε 3,ζ none 0 0,ζ none 0 0,ι υ 7,ι ε 100,ι ω 0,ι ω 0,ι ω 0,ι ω 0,ι υ 0,ι ε 3,ζ none 0 0,ζ none 0 0,ι υ 7,ι ε 100,ι ω 0,ι ω 0,ι ω 0,ι ω 0,ι υ 0,ι ε 4,ζ none 0 0,ζ none 0 0,ι υ 0,ι ε 0,ι ω 0,ι ω 0,ι ω 0,ι ω 0,ι υ 150] 80/\ah v (u+1+1+1+1+1) #[ι ε 1,ι ε 100,ζ (some ⟨u+1+1+1+1,0,none⟩) 5 5] 26) ρE (λkx=>⟨kx,by first|rfl|(simp;done),ρB,ρB,ρB,ρB⟩) ?_;rintro v1 ⟨k1,z1,C1,R1,O1,S1⟩;have G:=DO u v1 z1 C1 R1 O1;have Rr:=S1.r;clear C1 R1 O1;replace z1:=ag z1;go_wp2_with fail;refine(FO _ _ _ G).mono ?_;rintro e v2 ⟨rs,ev,a,b,rfl,E2,⟨ra,rn,rc,rfl⟩,k2⟩;have b2:Below u u v2:=k1.trans (k2.mono τl);have R2:=ae.rd E2 (λ_=>rfl);obtain⟨oe,ce,rfl,-⟩:=R2.slice;obtain⟨g,off,rfl⟩:=R2.some ρp;have zg:g<v2:=by obtain⟨g',off',e1,h1,_⟩:=R2.at (i:=0) rfl;cases e1;exact h1
 have d0:=R2.cell (i:=0) rfl 1 rfl;have d1:=R2.cell (i:=1) rfl 4 rfl;have d2:=R2.cell (i:=3) rfl 3 rfl;have d3:=R2.cell (i:=3) rfl 4 rfl;clear R2 E2 G S1 k2;go_upto_region 5 with (fail);refine aV v2 (λv=>Below v2 v2 v) (λv=>Below v2 v2 v/\ah v v2 #[ζ ra rn rc,ζ (some ⟨g,off,none⟩) 4 ce] 35) ρE (λkx=>⟨kx,ρB⟩) ?_;rintro v3 ⟨k3,X3⟩;have b3:Below u u v3:=b2.trans (k3.mono b2.size);have d0:v3.cell? ⟨g,off+1,none⟩=some (β true):=(k3.cell (p:=⟨g,off+0*12+1,none⟩) zg).trans d0;have d1:v3.cell? ⟨g,off+12+4,none⟩=some (ι υ 100):=(k3.cell (p:=⟨g,off+1*12+4,none⟩) zg).trans d1;have d2:v3.cell? ⟨g,off+36+3,none⟩=some (ι υ 100):=(k3.cell (p:=⟨g,off+3*12+3,none⟩) zg).trans d2;have d3:v3.cell? ⟨g,off+36+4,none⟩=some (ι υ 200):=(k3.cell (p:=⟨g,off+3*12+4,none⟩) zg).trans d3;have Ss:=X3.r;clear b2 k1 z1;go_wp2;go_ret;exact⟨rfl,b3.trans ρE⟩
section
open Go.ChangeShapes Go.WideShapes Go.ChangeAt Go.RowKit
theorem jX (T Lm:Int)(u:ϗ)(L:List OI)(w:ϖ)(o:cK w w u L)(i:∀x ∈ L,AZ x):CB 3 #[φ #[ι ε T,ι ε Lm,u]] w fF:=
 CR Bb T Lm u L (λx hx=>(i x hx).1) (λx hx=>(i x hx).2) w w o
namespace wholeLatestDone
theorem own:ownKnob Ψ.godebug=none:=by kernel_rfl
theorem BG:laidOutB Ψ=true:=by kernel_rfl
theorem lifted (os:Os)(QC:os.Started)(H:Type)(enc:TypeId × ϗ->H):
  ReturnsInHanded {} Tryz.checked os 3 .any (Rows.wholeLatestSpec.pre6 enc Ψ Tryz.f3 Rows.wholeLatestRow.domain false) (Rows.wholeLatestSpec.post enc Ψ Tryz.f3 false true false false):=by
 refine returnsInHanded_of_change (C:=Tryz.checked) own QC ρi Tryz.func3
  (ChangeSpec.witness6 (enc:=enc) (C:=Tryz.checked) false ⟨#[],#[φ #[Kz,Kz,Kn]],[]⟩ 8 ρi ρi ρi ρi) ?_
 intro W base args ds gs before Ze hW hcnd _;have XU:∀(j:Nat) t v,Tryz.f3.params[j]?=some t->args[j]?=some v->Value.okWide Ψ W .any base t v:=Ze;have hW':=hW;obtain⟨p,q,hA0,hV,rfl,hfz,Ob⟩:=hW;have hA:DataW.TrodAll enc Ψ W 0 (λ_=>true) true Tryz.f3.params.toList args.toList ds p:=hA0;rw[Tryz.params3] at hA XU;obtain⟨v0,vs0,d0,ds0,p0,q0,hargs,rfl,rfl,h0,r0⟩:=trodAll_cons hA;obtain⟨rfl,rfl,rfl⟩:=trodAll_nil r0;obtain rfl:args=#[v0]:=by cases args;simp_all
 obtain⟨rfl,rfl⟩:=trodVars_none hV;have k0:=h0;have lt0:∀x ∈ p0,x.block<W:=by obtain⟨m,hm⟩:=k0;exact DataW.trod_lt m _ _ _ hm
 obtain⟨T0,M0,u0,L0,rfl,o0,i0⟩:=rI (XU 0 26 v0 rfl rfl) h0;clear hA0 Ze;refine(jX T0 M0 u0 L0 W o0 i0).mono λe W' ⟨he,bel⟩=>?_;subst he;exact⟨_,rfl,_,_,_,[],_,[],hW',trodAll_mk1 (shut_bool Tryz.underlying4 _),(trodAll_cons_mk (Below.trod BG ρi (of_decide_eq_true ρi) k0 bel lt0) trodAll_mk0),rfl,bel.frame _,λh=>by cases h⟩
theorem over:Rows.wholeLatestRow.holds Tryz.pinned (OpenSpec.ofChange Rows.wholeLatestSpec):=
 OpenClaim.holds_of_wide 3 Tryz.f3 rfl rfl rfl rfl rfl rfl rfl ⟨rfl,rfl,rfl,rfl,rfl⟩ rfl rfl rfl rfl rfl named Tryz.func3 DR
  (of_decide_eq_true ρi) (by unfold Func.isWrapper;first|(rw[qP (by decide+kernel)];kernel_rfl)|(rw[qI (by decide+kernel)];exact⟨rfl,rfl⟩))
  (λos QC H enc _=>lifted os QC H enc)
end wholeLatestDone
theorem WholeLatest_holds:Rows.WholeLatestSaid:=wholeLatestDone.over
end
end Go.Proofs.YtfdlemkplejdnaaGreat
