/- What the law's row needs of these texts, taken out of them by wip/tool/mini.py: QPushLaw QCutLaw QFlowLaw QMaxLaw P52 P53 QLevelDef QSoughtLaw QSeekLaw QQueLaw QRawMem P72 QQueGrow QQuePut P69 P70 QRepeatWalk QLeast QSeekWalk QReverseWalk QFarsWalk QWayRef P54 QSortNil QSortRow. -/
import Derived.Test.YtoedkglggapggaaMgjbbed
import Derived.Test.YtoedkglggapggaaMjjigcl
import Derived.RegionTactic
import Derived.ChangeAlike
import Derived.BigRegion
import Derived.LoopTactic
import Derived.WalkKit
import Derived.WalkMore
import Derived.Deep.RegionHeld3
import Derived.Deep.RegionLaw
import Derived.Deep.AppendLies
import Derived.IntWalk
import Derived.Laws.IdiomCopy
import Derived.Laws.CopyOwn
import Derived.Test.YtoedkglggapggaaProg
import Derived.Deep.DeepCutAuto
set_option linter.unusedVariables false
set_option linter.unusedSimpArgs false
open Go.RowKit Go.Proofs.YtoedkglggapggaaW.PrintWords Go.Proofs.YtoedkglggapggaaW.PrintLast Go.Proofs.YtoedkglggapggaaW.PrintMore
namespace Go.Proofs.Ytoedkglggapggaa
namespace H
open P Q
def goS (F:List Int) (s:S79) (k:Int):List Int:=F.set s.f0.toNat (if s.f1 then F.getD s.f0.toNat 0 - k else F.getD s.f0.toNat 0+k)
def pushW (F:List Int) (k:Int) (L:List S79):List Int:=L.foldl (fun F s=>goS F s k) F
theorem goS_len (F:List Int) (s:S79) (k:Int):(goS F s k).length=F.length:=by simp[goS]
theorem stRoom_in {l:List S50} {F:List Int} {n:Nat} (hr:Right l F n) {s:S79} (hs:StepOf l s):0≤stRoom l F s∧stRoom l F s≤1048576:=by
 obtain⟨i,h1,h2⟩:=hs;have:=hr.nums i h1;unfold stRoom;rw[h2,Int.toNat_natCast];split<;>omega
theorem Right.go {l:List S50} {F:List Int} {n:Nat} (hr:Right l F n) {s:S79} (hs:StepOf l s) {k:Int} (h0:0≤k) (hk:k≤stRoom l F s):Right l (goS F s k) n:=by
 obtain⟨i,h1,h2⟩:=hs;have hi:=hr.nums i h1;have hl:=hr.len;refine⟨hr.pos,hr.fifty,hr.arcs,by rw[goS_len];exact hl,hr.ends,fun j hj=> ?_⟩;have h3:=hr.nums j hj;unfold stRoom at hk;rw[h2,Int.toNat_natCast] at hk;unfold goS;rw[h2,Int.toNat_natCast];by_cases e:i=j
 ·subst e
  rw[getD_set_eq _ _ _ _ (by omega)];cases hb:s.f1<;>rw[hb] at hk<;>simp only[Bool.false_eq_true,if_false,if_true] at hk ⊢ <;>omega
 ·rw[getD_set_ne _ _ _ _ _ e]
  exact h3
theorem room_other {l:List S50} {F:List Int} {s s':S79} (hs:StepOf l s) (hs':StepOf l s') (k:Int) (h:s.f0≠s'.f0):stRoom l (goS F s k) s'=stRoom l F s':=by
 obtain⟨i,h1,h2⟩:=hs;obtain⟨j,h3,h4⟩:=hs';unfold stRoom goS;rw[h2,h4,Int.toNat_natCast,Int.toNat_natCast,getD_set_ne _ _ _ _ _ (fun e=>h (by rw[h2,h4,e]))]
theorem Right.pushW {l:List S50} {n:Nat} {k:Int} (h0:0≤k) (L:List S79): ∀ {F:List Int},Right l F n→(∀ s,s∈L→StepOf l s∧k≤stRoom l F s)→L.Pairwise (fun a b=>a.f0≠b.f0)→Right l (H.pushW F k L) n:=by
 induction L with
 |nil=>intro F hr _ _;exact hr
 |cons s L ih=>
  intro F hr h hp;rw[List.pairwise_cons] at hp;have hs:=h s List.mem_cons_self;refine ih (hr.go hs.1 h0 hs.2) (fun x hx=> ?_) hp.2;have hx2:=h x (List.mem_cons_of_mem _ hx);exact⟨hx2.1,by rw[room_other hs.1 hx2.1 k (hp.1 x hx)];exact hx2.2⟩
theorem bal_set (l:List S50) (v:Int): ∀ (f:List Int) (i:Nat) (y:Int),f.length=l.length→i<l.length→
  bal l (f.set i y) v=bal l f v+(if (rd_T50 l i).f0=v then y - f.getD i 0 else 0) - (if (rd_T50 l i).f1=v then y - f.getD i 0 else 0):=by
 induction l with
 |nil=>intro f i y h hi;simp at hi
 |cons a l ih=>
  intro f i y h hi;cases f with
  |nil=>simp at h
  |cons x f=>
   cases i with
   |zero=>
    have e:rd_T50 (a::l) ((0:Nat):Int)=a:=rfl;rw[e];simp only[List.set_cons_zero,List.getD_cons_zero,bal_cons];split<;>split<;>omega
   |succ i=>
    have e:rd_T50 (a::l) ((i+1:Nat):Int)=rd_T50 l (i:Int):=by rw[rdArc_nat,rdArc_nat];rfl
    rw[e];simp only[List.set_cons_succ,List.getD_cons_succ,bal_cons];rw[ih f i y (by simpa using h) (by simpa using hi)];omega
theorem bal_go {l:List S50} {f:List Int} (hl:f.length=l.length) {s:S79} (hs:StepOf l s) (k v:Int):
  bal l (goS f s k) v=bal l f v+(if stFrom l s=v then k else 0) - (if stTo l s=v then k else 0):=by
 obtain⟨i,h1,h2⟩:=hs;unfold goS stFrom stTo eFrom eTo;rw[h2,Int.toNat_natCast,bal_set l v f _ _ hl h1];cases s.f1
 ·simp only[Bool.false_eq_true,if_false]
  split<;>split<;>omega
 ·simp only[if_true]
  split<;>split<;>omega
def Trail (l:List S50):Int→List S79→Int→Prop
 |a,[],b=>a=b
 |a,s::L,b=>StepOf l s∧stFrom l s=a∧Trail l (stTo l s) L b
theorem Trail.of {l:List S50} : ∀ {L:List S79} {a b:Int},Trail l a L b→ ∀ s,s∈L→StepOf l s
 |[],_,_,_,s,hs=>by cases hs
 |x::L,_,_,h,s,hs=>(List.mem_cons.1 hs).elim (fun e=>e▸h.1) (h.2.2.of s)
theorem bal_pushW {l:List S50} (k v:Int): ∀ {L:List S79} {f:List Int} {a b:Int},f.length=l.length→Trail l a L b→
  bal l (pushW f k L) v=bal l f v+(if v=a then k else 0) - (if v=b then k else 0)
 |[],f,a,b,_,h=>by
  have h:a=b:=h;subst h;show bal l f v=_;omega
 |s::L,f,a,b,hl,h=>by
  obtain⟨hs,rfl,ht⟩:=h;show bal l (pushW (goS f s k) k L) v=_;rw[bal_pushW k v (by rw[goS_len,hl]) ht,bal_go hl hs];have e1:(if v=stTo l s then k else 0)=(if stTo l s=v then k else 0):=by
   by_cases e:stTo l s=v
   ·rw[Yx e,Yx e.symm]
   ·rw[Yy e,Yy (Ne.symm e)]
  have e2:(if v=stFrom l s then k else 0)=(if stFrom l s=v then k else 0):=by
   by_cases e:stFrom l s=v
   ·rw[Yx e,Yx e.symm]
   ·rw[Yy e,Yy (Ne.symm e)]
  rw[e1,e2];omega
theorem rises_apart {l:List S50} (lv:Int→Int): ∀ {L:List S79} {a b:Int},Trail l a L b→(∀ s,s∈L→lv (stTo l s)=lv (stFrom l s)+1)→
  L.Pairwise (fun x y=>x.f0≠y.f0)∧ ∀ s,s∈L→lv a≤lv (stFrom l s)
 |[],_,_,_,_=>⟨List.Pairwise.nil,fun s hs=>by cases hs⟩
 |x::L,a,b,h,hv=>by
  obtain⟨hs,ha,ht⟩:=h;have hx:=hv x List.mem_cons_self;obtain⟨h1,h2⟩:=rises_apart lv ht (fun s hs=>hv s (List.mem_cons_of_mem _ hs));refine⟨List.pairwise_cons.2 ⟨fun y hy e=> ?_,h1⟩,fun s hs=> ?_⟩
  ·have h3:=h2 y hy
   have h4:=hv y (List.mem_cons_of_mem _ hy);have h5:(stFrom l y=stFrom l x∧stTo l y=stTo l x)∨(stFrom l y=stTo l x∧stTo l y=stFrom l x):=by
    unfold stFrom stTo;rw[e];cases x.f1<;>cases y.f1<;>simp
   rcases h5 with ⟨e1,e2⟩|⟨e1,e2⟩
   ·rw[e1] at h3;omega
   ·rw[e1,e2] at h4;omega
  ·rcases List.mem_cons.1 hs with rfl|hs
   ·rw[ha];exact Int.le_refl _
   ·have:=h2 s hs
    rw[← ha];omega
def leastR (l:List S50) (F:List Int):List S79→Int
 |[]=>0
 |[s]=>stRoom l F s
 |s::t::L=>min (stRoom l F s) (leastR l F (t::L))
theorem leastR_le {l:List S50} {F:List Int} : ∀ {L:List S79} {s:S79},s∈L→leastR l F L≤stRoom l F s
 |[],s,h=>by cases h
 |[x],s,h=>by rw[List.mem_singleton.1 h];exact Int.le_refl _
 |x::y::L,s,h=>by
  unfold leastR;rcases List.mem_cons.1 h with rfl|h
  ·omega
  ·have:=leastR_le (l:=l) (F:=F) h
   omega
theorem leastR_in {l:List S50} {F:List Int} : ∀ {L:List S79},L≠[]→ ∃ s,s∈L∧leastR l F L=stRoom l F s
 |[],h=>absurd rfl h
 |[x],_=>⟨x,List.mem_cons_self,rfl⟩
 |x::y::L,_=>by
  obtain⟨s,h1,h2⟩:=leastR_in (l:=l) (F:=F) (L:=y::L) (by simp);unfold leastR;by_cases h:stRoom l F x≤leastR l F (y::L)
  ·exact⟨x,List.mem_cons_self,by omega⟩
  ·exact⟨s,List.mem_cons_of_mem _ h1,by omega⟩
end H
namespace H
open P Q
def outR (R:Int→Bool):List S50→List Int→Int
 |a::l,x::f=>(if R a.f0 then x else 0) - (if R a.f1 then x else 0)+outR R l f
 |_,_=>0
theorem outR_cons (R:Int→Bool) (a:S50) (l:List S50) (x:Int) (f:List Int):outR R (a::l) (x::f)=(if R a.f0 then x else 0) - (if R a.f1 then x else 0)+outR R l f:=rfl
def capR (R:Int→Bool):List S50→Int
 |[]=>0
 |a::l=>(if R a.f0 && !R a.f1 then a.f2 else 0)+capR R l
theorem capR_cons (R:Int→Bool) (a:S50) (l:List S50):capR R (a::l)=(if R a.f0 && !R a.f1 then a.f2 else 0)+capR R l:=rfl
def sumR (R:Int→Bool) (g:Int→Int):Nat→Int
 |0=>0
 |n+1=>sumR R g n+(if R n then g n else 0)
theorem sumR_add (R:Int→Bool) (g h:Int→Int) (n:Nat):sumR R (fun v=>g v+h v) n=sumR R g n+sumR R h n:=by
 induction n with
 |zero=>rfl
 |succ n ih=>unfold sumR;rw[ih];split<;>omega
theorem sumR_one (R:Int→Bool) (a x:Int) (n:Nat) (h0:0≤a) (h1:a<n):sumR R (fun v=>if a=v then x else 0) n=if R a then x else 0:=by
 have aux: ∀ m:Nat,sumR R (fun v=>if a=v then x else 0) m=if a<m then(if R a then x else 0) else 0:=by
  intro m
  induction m with
  |zero=>rw[Yy (by omega)];rfl
  |succ m ih=>
   unfold sumR;rw[ih];show _+(if R m then(if a=(m:Int) then x else 0) else 0)=_;by_cases e:a=(m:Int)
   ·subst e
    rw[Yy (Int.lt_irrefl _),Yx (show (m:Int)<((m+1:Nat):Int) by omega),Yx rfl];omega
   ·have e2:(if R m then(if a=(m:Int) then x else 0) else 0)=0:=by rw[Yy e];split<;>rfl
    rw[e2];by_cases hm:a<(m:Int)
    ·rw[Yx hm,Yx (show a<((m+1:Nat):Int) by omega)]
     omega
    ·rw[Yy hm,Yy (show ¬ a<((m+1:Nat):Int) by omega)]
     omega
 rw[aux,Yx h1]
theorem sumR_zero (R:Int→Bool) (n:Nat):sumR R (fun _=>0) n=0:=by
 induction n with
 |zero=>rfl
 |succ n ih=>unfold sumR;rw[ih];simp
theorem sumR_neg (R:Int→Bool) (g:Int→Int) (n:Nat):sumR R (fun v=> -g v) n= -sumR R g n:=by
 induction n with
 |zero=>rfl
 |succ n ih=>unfold sumR;rw[ih];split<;>omega
theorem sum_bal (R:Int→Bool) (n:Nat): ∀ (l:List S50) (f:List Int),(∀ a,a∈l→(0≤a.f0∧a.f0<n)∧0≤a.f1∧a.f1<n)→f.length=l.length→sumR R (bal l f) n=outR R l f
 |[],[],_,_=>by
  have e:bal ([]:List S50) []=fun _=>0:=rfl
  rw[e,sumR_zero];rfl
 |[],_::_,_,h=>by simp at h
 |_::_,[],_,h=>by simp at h
 |a::l,x::f,h,hl=>by
  obtain⟨⟨h1,h2⟩,h3,h4⟩:=h a List.mem_cons_self;have e:bal (a::l) (x::f)=fun v=>((if a.f0=v then x else 0)+ -(if a.f1=v then x else 0))+bal l f v:=by
   funext v;rw[bal_cons];omega
  rw[e,sumR_add,sumR_add,sumR_one R _ x n h1 h2,sumR_neg,sumR_one R _ x n h3 h4,sum_bal R n l f (fun b hb=>h b (List.mem_cons_of_mem _ hb)) (by simpa using hl),outR_cons];omega
theorem sumR_ends {R:Int→Bool} {g:Int→Int} {s t:Int} (n:Nat) (hs:R s=true) (ht:R t=false) (h0:0≤s) (h1:s<n) (hg: ∀ v:Int,0≤v→v<n→v≠s→v≠t→g v=0):sumR R g n=g s:=by
 have aux: ∀ m:Nat,m≤n→sumR R g m=if s<m then g s else 0:=by
  intro m
  induction m with
  |zero=>intro _;rw[Yy (by omega)];rfl
  |succ m ih=>
   intro hm;unfold sumR;rw[ih (by omega)];show _+(if R m then g m else 0)=_;by_cases e:s=(m:Int)
   ·subst e
    rw[Yy (Int.lt_irrefl _),Yx hs,Yx (show (m:Int)<((m+1:Nat):Int) by omega)];omega
   ·have e2:(if R m then g m else 0)=0:=by
     by_cases e3:t=(m:Int)
     ·rw[← e3,ht];rfl
     ·rw[hg m (by omega) (by omega) (Ne.symm e) (Ne.symm e3)];split<;>rfl
    rw[e2];by_cases h:s<(m:Int)
    ·rw[Yx h,Yx (show s<((m+1:Nat):Int) by omega)];omega
    ·rw[Yy h,Yy (show ¬ s<((m+1:Nat):Int) by omega)];omega
 rw[aux n (Nat.le_refl _),Yx h1]
theorem outR_le (R:Int→Bool): ∀ (l:List S50) (f:List Int),flowB l f=true→outR R l f≤capR R l
 |[],[],_=>by simp[outR,capR]
 |[],_::_,h=>by simp[flowB] at h
 |_::_,[],h=>by simp[flowB] at h
 |a::l,x::f,h=>by
  unfold flowB at h;split at h
  ·cases h
  ·split at h
   ·cases h
   ·have:=outR_le R l f h
    rw[outR_cons,capR_cons];cases R a.f0<;>cases R a.f1<;>simp<;>omega
def Tightly (R:Int→Bool) (l:List S50) (f:List Int):Prop:= ∀ i:Nat,i<l.length→(R (rd_T50 l i).f0=true→R (rd_T50 l i).f1=false→f.getD i 0=(rd_T50 l i).f2)∧(R (rd_T50 l i).f0=false→R (rd_T50 l i).f1=true→f.getD i 0=0)
theorem outR_eq (R:Int→Bool): ∀ (l:List S50) (f:List Int),f.length=l.length→Tightly R l f→outR R l f=capR R l
 |[],[],_,_=>by simp[outR,capR]
 |[],_::_,h,_=>by simp at h
 |_::_,[],h,_=>by simp at h
 |a::l,x::f,h,ht=>by
  have h0:=ht 0 (by simp);have e:rd_T50 (a::l) ((0:Nat):Int)=a:=rfl;rw[e] at h0;simp only[List.getD_cons_zero] at h0;have ih:=outR_eq R l f (by simpa using h) (fun i hi=>by
   have h1:=ht (i+1) (by simp;omega);have e:rd_T50 (a::l) ((i+1:Nat):Int)=rd_T50 l (i:Int):=by rw[rdArc_nat,rdArc_nat];rfl
   rw[e] at h1
   simpa using h1)
  rw[outR_cons,ih,capR_cons];cases h1:R a.f0<;>cases h2:R a.f1
  ·simp
  ·have:=h0.2 h1 h2;simp[this]
  ·have:=h0.1 h1 h2;simp[this]
  ·simp
structure IsFlow (l:List S50) (F:List Int) (n:Nat) (s t:Int):Prop where
 right:Right l F n
 keeps: ∀ v:Int,0≤v→v<n→v≠s→v≠t→bal l F v=0
theorem ends_arcs {l:List S50} {n:Nat} (h:ends l n): ∀ a,a∈l→(0≤a.f0∧a.f0<n)∧0≤a.f1∧a.f1<n:=by
 intro a ha;obtain⟨i,hi,e⟩:=List.getElem_of_mem ha;have h1:=h i hi;unfold eFrom eTo at h1;rw[rdArc_nat,List.getD_eq_getElem?_getD,List.getElem?_eq_getElem hi] at h1;have e2:(some l[i]).getD z50=a:=e;rw[e2] at h1;exact h1
theorem Right.flowB {l:List S50} {F:List Int} {n:Nat} (h:Right l F n):flowB l F=true:=by
 have hl:=h.len;refine flow_mk hl fun i hi=> ?_
 have:=h.nums i (by omega);rw[rdArc_nat] at this;exact⟨this.2.2.1,this.2.2.2.1⟩
theorem value_le {l:List S50} {F:List Int} {n:Nat} {s t:Int} (h:IsFlow l F n s t) (R:Int→Bool) (hs:R s=true) (ht:R t=false) (h0:0≤s) (h1:s<n):bal l F s≤capR R l:=by
 rw[← sumR_ends n hs ht h0 h1 h.keeps,sum_bal R n l F (ends_arcs h.right.ends) h.right.len];exact outR_le R l F h.right.flowB
theorem value_eq {l:List S50} {F:List Int} {n:Nat} {s t:Int} (h:IsFlow l F n s t) (R:Int→Bool) (hs:R s=true) (ht:R t=false) (h0:0≤s) (h1:s<n)
  (hR: ∀ e:S79,StepOf l e→0<stRoom l F e→R (stFrom l e)=true→R (stTo l e)=true):bal l F s=capR R l:=by
 rw[← sumR_ends n hs ht h0 h1 h.keeps,sum_bal R n l F (ends_arcs h.right.ends) h.right.len];refine outR_eq R l F h.right.len fun i hi=> ?_
 have hn:=h.right.nums i hi;have hf:=hR ⟨i,false⟩ ⟨i,hi,rfl⟩;have hb:=hR ⟨i,true⟩ ⟨i,hi,rfl⟩;unfold stRoom stFrom stTo eFrom eTo at hf hb;simp only[Bool.false_eq_true,if_false,if_true,Int.toNat_natCast] at hf hb;refine⟨fun a b=> ?_,fun a b=> ?_⟩
 ·have: ¬ 0<(rd_T50 l i).f2 - F.getD i 0:=fun g=>by have:=hf g a;rw[b] at this;cases this
  omega
 ·have: ¬ 0<F.getD i 0:=fun g=>by have:=hb g b;rw[a] at this;cases this
  omega
theorem capR_top (R:Int→Bool): ∀ (l:List S50),(∀ a,a∈l→0≤a.f2∧a.f2≤1048576)→0≤capR R l∧capR R l≤1048576 * l.length
 |[],_=>by simp[capR]
 |a::l,h=>by
  have h1:=h a List.mem_cons_self;have h2:=capR_top R l fun b hb=>h b (List.mem_cons_of_mem _ hb)
  rw[List.length_cons,capR_cons];split<;>omega
theorem Right.caps {l:List S50} {F:List Int} {n:Nat} (h:Right l F n): ∀ a,a∈l→0≤a.f2∧a.f2≤1048576:=by
 intro a ha;obtain⟨i,hi,e⟩:=List.getElem_of_mem ha;have h1:=h.nums i hi;rw[rdArc_nat,List.getD_eq_getElem?_getD,List.getElem?_eq_getElem hi] at h1;have e2:(some l[i]).getD z50=a:=e;rw[e2] at h1;omega
end H
namespace H
open P Q
def esP (l:List S50) (F:List Int) (u:Nat):List S79:=(stL l u l.length).filter fun e=>decide (0<stRoom l F e)
def toP (l:List S50) (e:S79):Nat:=(stTo l e).toNat
def frP (l:List S50) (e:S79):Nat:=(stFrom l e).toNat
def bfP (l:List S50) (F:List Int) (n s:Nat):List (Fd S79):=bfsN (toP l) (esP l F) z79 n s
theorem mem_esP {l:List S50} {F:List Int} {u:Nat} {e:S79} :e∈esP l F u↔e∈stL l u l.length∧0<stRoom l F e:=by
 unfold esP;rw[List.mem_filter,decide_eq_true_eq]
theorem frP_of {l:List S50} {u:Nat} {e:S79} (h:e∈stL l u l.length):frP l e=u:=by
 unfold frP;rw[stL_from h,Int.toNat_natCast]
theorem toP_lt {l:List S50} {F:List Int} {n:Nat} (hr:Right l F n) {s:S79} (hs:StepOf l s):toP l s<n:=by
 have:=stTo_in hr hs;unfold toP;omega
theorem frP_lt {l:List S50} {F:List Int} {n:Nat} (hr:Right l F n) {s:S79} (hs:StepOf l s):frP l s<n:=by
 have:=stFrom_in hr hs;unfold frP;omega
theorem esP_to {l:List S50} {F:List Int} {n:Nat} (hr:Right l F n): ∀ (u:Nat) (e:S79),e∈esP l F u→toP l e<n:=fun u e he=>toP_lt hr (stL_of (mem_esP.1 he).1)
theorem esP_fr {l:List S50} {F:List Int} : ∀ (u:Nat) (e:S79),e∈esP l F u→frP l e=u:=fun u e he=>frP_of (mem_esP.1 he).1
theorem esP_of {l:List S50} {F:List Int} {n:Nat} (hr:Right l F n) {e:S79} (hs:StepOf l e) (h:0<stRoom l F e):e∈esP l F (frP l e):=by
 refine mem_esP.2 ⟨?_,h⟩;have hf:=stFrom_in hr hs;rw[mem_stL];unfold frP;rw[Int.toNat_of_nonneg hf.1];obtain⟨i,h1,h2⟩:=hs;refine⟨i,h1,h2,?_⟩;unfold stFrom;rw[h2];cases e.f1
 ·exact .inl ⟨rfl,rfl⟩
 ·exact .inr ⟨rfl,rfl⟩
theorem bfP_upto {l:List S50} {F:List Int} {n s:Nat} (hr:Right l F n) (hs:s<n):Upto (frP l) (toP l) (esP l F) s (bfP l F n s).length (bfP l F n s):=bfsN_upto (esP_to hr) hs
theorem bfP_head {l:List S50} {F:List Int} {n s:Nat} (hr:Right l F n) (hs:s<n): ∃ x,x∈bfP l F n s∧x.v=s∧x.lv=0:=by
 obtain⟨x,r,h1,h2,h3⟩:=(bfP_upto hr hs).fds.head;exact⟨x,by rw[h1];exact List.mem_cons_self,h2,h3⟩
def netG (l:List S50) (F D:List Int):Net_ S79:=⟨fun v=>stL l v l.length,toP l,frP l,fun v=>D.getD v 0,fun e=>decide (0<stRoom l F e)⟩
theorem leads_trail {l:List S50} {F:List Int} {n:Nat} (hr:Right l F n) {rows:Nat→List S79} (hrows: ∀ u e,e∈rows u→e∈stL l u l.length): ∀ {L:List S79} {s t:Nat},Leads (toP l) rows s L t→Trail l s L t
 |[],s,t,h=>by cases h;rfl
 |x::L,s,t,h=>by
  have hx:=hrows _ _ h.1;refine⟨stL_of hx,stL_from hx,?_⟩;have h1:=stTo_in hr (stL_of hx);have h2:=leads_trail hr hrows h.2;unfold toP at h2;rw[Int.toNat_of_nonneg h1.1] at h2;exact h2
theorem push_found {l:List S50} {F F0:List Int} {n s t:Nat} (hf:IsFlow l F n s t) (hr0:Right l F0 n) (hs:s<n) (hst:s≠t) {L:List S79}
  (hL:Leads (toP l) (fun v=>stL l v l.length) s L t) (ha: ∀ e,e∈L→(netG l F (dOf n (bfP l F0 n s))).adm (frP l e) e=true):
  IsFlow l (pushW F (leastR l F L) L) n s t∧1≤leastR l F L∧L≠[]∧bal l (pushW F (leastR l F L) L) s=bal l F s+leastR l F L∧L.Pairwise (fun a b=>a.f0≠b.f0)∧(∀ s,s∈L→StepOf l s)∧leastR l F L≤1048576:=by
 have hne:L≠[]:=by rintro rfl;exact hst hL
 have htr:=leads_trail hf.right (rows:=fun v=>stL l v l.length) (fun _ _ h=>h) hL;have hroom: ∀ e,e∈L→0<stRoom l F e:=fun e he=>Yu (adm_lv (ha e he)).2
 obtain⟨m,hm,hle⟩:=leastR_in (l:=l) (F:=F) hne;have h1:1≤leastR l F L:=by rw[hle];exact hroom m hm
 have hap:=(rises_apart (l:=l) (fun v=>(dOf n (bfP l F0 n s)).getD v.toNat 0) htr (fun e he=>(adm_lv (ha e he)).1)).1;have hr:=Right.pushW (k:=leastR l F L) (by omega) L hf.right (fun e he=>⟨htr.of e he,leastR_le he⟩) hap;have hb:=fun v=>bal_pushW (leastR l F L) v hf.right.len htr
 have hmx:=(stRoom_in hf.right (htr.of m hm)).2;refine⟨⟨hr,fun v h0 h1 h2 h3=> ?_⟩,h1,hne,?_,hap,htr.of,by omega⟩
 ·rw[hb,Yy h2,Yy h3,hf.keeps v h0 h1 h2 h3];rfl
 ·rw[hb,Yx rfl,Yy (by omega)];omega
theorem flow_top {l:List S50} {F:List Int} {n s t:Nat} (hf:IsFlow l F n s t) (hs:s<n) (hst:s≠t):bal l F s≤209715200:=by
 have h1:=value_le hf (fun v=>decide (v=(s:Int))) (by simp) (by simp;omega) (by omega) (by omega);have h2:=capR_top (fun v=>decide (v=(s:Int))) l hf.right.caps;have h3:=hf.right.arcs;have h4:1048576 * (l.length:Int)≤1048576 * 200:=by omega
 omega
structure MaxF (l:List S50) (F:List Int) (n s t:Nat):Prop where
 flow:IsFlow l F n s t
 cut:t ∉ nodes (bfP l F n s)
theorem zeros_flow {l:List S50} {n s t:Nat} (h0:0<n) (h50:n≤50) (hl:l.length≤200) (he:ends l n) (hn: ∀ i:Nat,i<l.length→0≤(rd_T50 l i).f3∧(rd_T50 l i).f3≤1048576∧0≤(rd_T50 l i).f2∧(rd_T50 l i).f2≤1048576):
  IsFlow l (List.replicate l.length 0) n s t∧bal l (List.replicate l.length 0) s=0:=by
 have hz: ∀ (l:List S50) (v:Int),bal l (List.replicate l.length 0) v=0:=by
  intro l v
  induction l with
  |nil=>rfl
  |cons a l ih=>rw[List.length_cons,List.replicate_succ,bal_cons,ih];split<;>split<;>rfl
 refine⟨⟨⟨h0,h50,hl,by simp,he,fun i hi=> ?_⟩,fun v _ _ _ _=>hz l v⟩,hz l _⟩;have:=hn i hi;have e:(List.replicate l.length (0:Int)).getD i 0=0:=by rw[List.getD_eq_getElem?_getD,List.getElem?_replicate,Yx hi];rfl
 rw[e];omega
def sideP (l:List S50) (F:List Int) (n s:Nat) (v:Int):Bool:=decide (0≤v∧v.toNat∈nodes (bfP l F n s))
theorem side_closed {l:List S50} {F:List Int} {n s:Nat} (hr:Right l F n) (hs:s<n): ∀ e:S79,StepOf l e→0<stRoom l F e→sideP l F n s (stFrom l e)=true→sideP l F n s (stTo l e)=true:=by
 intro e he hroom h;unfold sideP at h ⊢;rw[decide_eq_true_eq] at h ⊢;obtain⟨x,hx,hxv⟩:=List.mem_map.1 h.2;have h1:=esP_of hr he hroom;have h2:frP l e=x.v:=hxv.symm;rw[h2] at h1;obtain⟨y,hy,h3,_⟩:=bfsN_closed (z:=z79) (esP_to hr) hs hx h1;have h4:=stTo_in hr he;exact⟨h4.1,List.mem_map.2 ⟨y,hy,h3⟩⟩
theorem max_value {l:List S50} {F:List Int} {n s t:Nat} (h:MaxF l F n s t) (hs:s<n) (hst:s≠t):bal l F s=capR (sideP l F n s) l∧sideP l F n s s=true∧sideP l F n s t=false:=by
 have h1:sideP l F n s s=true:=by
  obtain⟨x,hx,hxv,_⟩:=bfP_head h.flow.right hs;unfold sideP;rw[decide_eq_true_eq];exact⟨by omega,by rw[Int.toNat_natCast];exact List.mem_map.2 ⟨x,hx,hxv⟩⟩
 have h2:sideP l F n s t=false:=by
  unfold sideP;rw[decide_eq_false_iff_not,Int.toNat_natCast];exact fun g=>h.cut g.2
 exact⟨value_eq h.flow _ h1 h2 (by omega) (by omega) (side_closed h.flow.right hs),h1,h2⟩
end H
namespace H
open P Q
theorem max_nonneg {l:List S50} {F:List Int} {n s t:Nat} (h:MaxF l F n s t) (hs:s<n) (hst:s≠t):0≤bal l F s:=by
 have h1:=(max_value h hs hst).1;have h2:=(capR_top (sideP l F n s) l h.flow.right.caps).1;omega
theorem zeros_of {l:List S50} {F:List Int} {n s t:Nat} (h:Right l F n):IsFlow l (List.replicate l.length 0) n s t∧bal l (List.replicate l.length 0) s=0:=
 zeros_flow h.pos h.fifty h.arcs h.ends (fun i hi=>by have:=h.nums i hi;exact⟨this.1,this.2.1,by omega,by omega⟩)
theorem sideP_iff {l:List S50} {F:List Int} {n s v:Nat} :sideP l F n s v=true↔v∈nodes (bfP l F n s):=by
 unfold sideP;rw[decide_eq_true_eq,Int.toNat_natCast];exact⟨fun h=>h.2,fun h=>⟨by omega,h⟩⟩
theorem bal_app (v:Int) (r:List S50) (g:List Int): ∀ (l:List S50) (f:List Int),f.length=l.length→bal (l ++ r) (f ++ g) v=bal l f v+bal r g v
 |[],[],_=>by rw[bal_nil];simp
 |[],_::_,h=>by simp at h
 |_::_,[],h=>by simp at h
 |a::l,x::f,h=>by rw[List.cons_append,List.cons_append,bal_cons,bal_cons,bal_app v r g l f (by simpa using h)];omega
end H
namespace P
attribute [local go_sem] max2_int min2_int max_two min_two max_three min_three max_four min_four
def ebbtideref08_found_has.l0:Nat→Int→Int→List Int→List (S79)→Option (Int)
 |0,_,_,_,_=>none
 |k+1,x1,x5,x313000,x313001=>if x5<(x313000.length:Int) then(if 0≤x5 then(if (rd x313000 x5)=x1 then(some x5) else(ebbtideref08_found_has.l0 k x1 (wrap64 (x5+1)) x313000 x313001)) else(none)) else(some (-1))
def ebbtideref08_found_has.f (k:Nat) (l0_0:List Int) (l0_1:List (S79)) (a1:Int):Option (Int):=ebbtideref08_found_has.l0 k a1 0 l0_0 l0_1
set_option maxHeartbeats 8000000 in
set_option maxRecDepth 100000 in
theorem ebbtideref08_found_has.calls (k:Nat) (A0_0:Option Addr) (c0_0:Nat) (l0_0:List Int) (A0_1:Option Addr) (c0_1:Nat) (l0_1:List (S79)) (a1:Int) (r:Int) (w:World) (hr0_0:Kd.C (Kd.int .i64) w A0_0 l0_0.length l0_0) (hc0_0:l0_0.length≤c0_0) (hr0_1:Kd.C k79 w A0_1 l0_1.length l0_1) (hc0_1:l0_1.length≤c0_1) (h:ebbtideref08_found_has.f k l0_0 l0_1 a1=some r):
  Calls Try.prog 78 #[.agg #[.slice A0_0 l0_0.length c0_0, .slice A0_1 l0_1.length c0_1], .int .i64 a1] w fun e w'=>e= .returned (.int .i64 r)∧Below w.heap.size w w':=by
 have hu119:=Try.underlying119;have HR0_0:=Ya hr0_0;have HC0_0:=Ya hc0_0;clear hr0_0 hc0_0;have HR0_1:=Ya hr0_1;have HC0_1:=Ya hc0_1;clear hr0_1 hc0_1;have HB:=Ya (Yo w.heap.size w);have H:=h;unfold ebbtideref08_found_has.f at H;clear h;have H':=Ya H;clear H;go_enter Try.func78,Try.ntmps78;go_wp2_with (first|(refine bx 2 119 #[.slice A0_0 l0_0.length c0_0, .slice A0_1 l0_1.length c0_1] ?_;intro gb312 hg w3 Zf hb;have BK312:=Ya (Zf);have GW312:=Ya ((sz hg));have GE312:=Ya ((sz hg));replace HB:=Ya (Yk bl hb);clear hb Zf hg));go_loopg [5] k (fun kq v5 w'=> ∃ (Zl:Int),v5= .int .i64 Zl∧Aside0 (ebbtideref08_found_has.l0 kq a1 Zl l0_0 l0_1=some r)∧Aside0 (kq≤k)∧Aside0 (w'.heap[gb312]? =some (.cells #[(.slice A0_0 l0_0.length c0_0),(.slice A0_1 l0_1.length c0_1)] 119 (0,0)))∧Aside0 (Below w.heap.size w w'))
 case atStart=>exact⟨(0),(by first|rfl|(simp;done)|(simp[*];done)),H',⟨Nat.le_refl _⟩,⟨BK312.out⟩,⟨HB.out⟩⟩
 case round=>
  clear H';obtain⟨Zl,rfl,HA,HK1,BK312,HB⟩:=hrel;cases gk with
  |zero=>exact absurd HA.out (by simp[ebbtideref08_found_has.l0])
  |succ k1=>
   have H:=HA.out;clear HA;simp only[ebbtideref08_found_has.l0] at H;by_cases c4:Zl<(l0_0.length:Int)
   rotate_left
   ·rw[Yy c4] at H
    have c4b0:decide (Zl<(l0_0.length:Int))=false:=Yw c4;clear c4;obtain rfl:=Option.some.inj H;have hcz9_0:wr.cell? ⟨gb312,0,none⟩=some (.slice A0_0 l0_0.length c0_0):=bc BK312 0;have hcz9_1:wr.cell? ⟨gb312,1,none⟩=some (.slice A0_1 l0_1.length c0_1):=bc BK312 1;have hfz9_0:=Yf BK312.out 0;have hfz9_1:=Yf BK312.out 1;go_wp2;go_ret;exact⟨by first|rfl|(simp[errW_none,errW_some]<;>rfl)|(simp[*,errW_none,errW_some]<;>rfl),HB.out⟩
   rw[Yx c4] at H;have c4b0:decide (Zl<(l0_0.length:Int))=true:=Yv c4;clear c4;by_cases c5:0≤Zl
   rotate_left
   ·rw[Yy c5] at H
    exact absurd H (by simp)
   rw[Yx c5] at H;have c5b0:decide (0≤Zl)=true:=Yv c5;clear c5;by_cases c6:(rd l0_0 Zl)=a1
   ·rw[Yx c6] at H
    have c6b0:((rd l0_0 Zl) == a1)=true:=beq_iff_eq.mpr c6;have c6b1:((rd l0_0 Zl) != a1)=false:=bne_eq_false_iff_eq.mpr c6;clear c6;obtain rfl:=Option.some.inj H;have hcz7_0:wr.cell? ⟨gb312,0,none⟩=some (.slice A0_0 l0_0.length c0_0):=bc BK312 0;have hcz7_1:wr.cell? ⟨gb312,1,none⟩=some (.slice A0_1 l0_1.length c0_1):=bc BK312 1;have hfz7_0:=Yf BK312.out 0;have hfz7_1:=Yf BK312.out 1;have p313:0≤(Zl:Int):=od;have q313:Zl<(l0_0.length:Int):=od;obtain⟨ad313,e313,hx313_0⟩:=Kd.at_int HR0_0.out Zl p313 q313;cases e313;replace hx313_0:=hc HB hx313_0;replace p313:=eq_true p313;replace q313:=eq_true q313;go_wp2;go_ret;exact⟨by first|rfl|(simp[errW_none,errW_some]<;>rfl)|(simp[*,errW_none,errW_some]<;>rfl),HB.out⟩
   rw[Yy c6] at H;have c6b0:((rd l0_0 Zl) == a1)=false:=beq_eq_false_iff_ne.mpr c6;have c6b1:((rd l0_0 Zl) != a1)=true:=bne_iff_ne.mpr c6;have H':=Ya H;clear H;have Uj:wr.cell? ⟨gb312,0,none⟩=some (.slice A0_0 l0_0.length c0_0):=bc BK312 0;have Uk:wr.cell? ⟨gb312,1,none⟩=some (.slice A0_1 l0_1.length c0_1):=bc BK312 1;have Ul:=Yf BK312.out 0;have Um:=Yf BK312.out 1;have p313:0≤(Zl:Int):=od;have q313:Zl<(l0_0.length:Int):=od;obtain⟨ad313,e313,hx313_0⟩:=Kd.at_int HR0_0.out Zl p313 q313;cases e313;replace hx313_0:=hc HB hx313_0;replace p313:=eq_true p313;replace q313:=eq_true q313;go_wp2;go_roundg k1
   case measure=>have:=HK1.out;omega
   case rel=>exact⟨(wrap64 (Zl+1)),(by first|rfl|(simp;done)|(simp[*];done)),H',⟨by have:=HK1.out;omega⟩,⟨BK312.out⟩,⟨HB.out⟩⟩
end P
namespace P
attribute [local go_sem] max2_int min2_int max_two min_two max_three min_three max_four min_four
mutual
def ebbtideref08_sought.l0:Nat→List (S79)→Int→Int→Bool→List (S50)→List Int→List (S79)→Option (List Int × (List (S79)))
 |0,_,_,_,_,_,_,_=>none
 |k+1,x2,x8,x315000,x315001,x315002,Jx,x317001=>if x8<(Jx.length:Int) then(ebbtideref08_sought.l1 k x2 x8 0 x315000 x315001 x315002 Jx x317001) else(some (Jx,x317001))
def ebbtideref08_sought.l1:Nat→List (S79)→Int→Int→Int→Bool→List (S50)→List Int→List (S79)→Option (List Int × (List (S79)))
 |0,_,_,_,_,_,_,_,_=>none
 |k+1,x2,x8,x9,x315000,x315001,x315002,Jx,x317001=>if x9<(x2.length:Int) then(if 0≤x9 then((ebbtideref07_From.f x315000 x315001 x315002 ((rd_T79 x2 x9).f0) ((rd_T79 x2 x9).f1)).bind fun t324=>(if 0≤x8 then(if x8<(Jx.length:Int) then(if t324=(rd Jx x8) then((ebbtideref07_To.f x315000 x315001 x315002 ((rd_T79 x2 x9).f0) ((rd_T79 x2 x9).f1)).bind fun t327=>((ebbtideref08_found_has.f k Jx x317001 t327).bind fun t328=>(if t328<0 then((ebbtideref07_To.f x315000 x315001 x315002 ((rd_T79 x2 x9).f0) ((rd_T79 x2 x9).f1)).bind fun t330=>(if Jx.length<17592186044416 then(if x317001.length<8796093022208 then(ebbtideref08_sought.l1 k x2 x8 (wrap64 (x9+1)) x315000 x315001 x315002 (Jx ++ [t330]) (x317001 ++ [(⟨(rd_T79 x2 x9).f0,(rd_T79 x2 x9).f1⟩:S79)])) else(none)) else(none))) else(ebbtideref08_sought.l1 k x2 x8 (wrap64 (x9+1)) x315000 x315001 x315002 Jx x317001)))) else(ebbtideref08_sought.l1 k x2 x8 (wrap64 (x9+1)) x315000 x315001 x315002 Jx x317001)) else(none)) else(none))) else(none)) else(ebbtideref08_sought.l0 k x2 (wrap64 (x8+1)) x315000 x315001 x315002 Jx x317001)
end
def ebbtideref08_sought.f (k:Nat) (Zc:Int) (Zb:Bool) (Za:List (S50)) (a1:Int) (l2:List (S79)):Option (List Int × (List (S79))):=if ([]:List Int).length<17592186044416 then(if ([]:List (S79)).length<8796093022208 then(ebbtideref08_sought.l0 k l2 0 Zc Zb Za (([]:List Int) ++ [a1]) (([]:List (S79)) ++ [(⟨0,false⟩:S79)])) else(none)) else(none)
def ebbtideref08_sought.T10:Bool × List (List Nat × List Nat):=(true,[([],[]),([],[]),([],[]),([1,2],[1,2]),([3],[3]),([0,4],[0,4]),([],[]),([6],[6]),([],[]),([7,8],[7,8]),([9],[9]),([5,10],[5,10]),([11,5],[11]),([12],[12]),([12],[12]),([12],[12]),([12],[12]),([15,16,12],[12,15,16]),([17,12],[12,17]),([14,18,12,12],[12,14,18]),([13,19,19,12],[12,13,19]),([20,12],[12,20]),([12,21],[12,21])])
def ebbtideref08_sought.B10:List Nat:=[0,0,0,6,14,31,0,64,0,448,960,2047,4095,8191,8191,8191,8191,106495,237567,516095,1048575,2097151,4194303]
theorem ebbtideref08_sought.tab10:rtab .any (opsOf Try.f77 10)=ebbtideref08_sought.T10:=by kernel_rfl
theorem ebbtideref08_sought.bits10:waitsOk ebbtideref08_sought.T10.2 ebbtideref08_sought.B10=true:=by kernel_rfl
def ebbtideref08_sought.T11:Bool × List (List Nat × List Nat):=(true,[([],[]),([0],[0]),([],[]),([],[]),([],[]),([3,4],[3,4]),([5],[5]),([2,6],[2,6]),([7],[7]),([1,8,7],[1,8]),([0,1,2,3,4,5,6,7,8,9],[]),([10,9,9,0,1,2,3,4,5,6,7,8,9],[9,10])])
def ebbtideref08_sought.B11:List Nat:=[0,1,0,0,0,24,56,124,252,511,1023,2047]
theorem ebbtideref08_sought.tab11:rtab .any (opsOf Try.f77 11)=ebbtideref08_sought.T11:=by kernel_rfl
theorem ebbtideref08_sought.bits11:waitsOk ebbtideref08_sought.T11.2 ebbtideref08_sought.B11=true:=by kernel_rfl
def ebbtideref08_sought.T12:Bool × List (List Nat × List Nat):=(true,[([],[]),([0],[0]),([],[]),([],[]),([2,3],[2,3]),([4],[4]),([5],[5]),([1,6],[1,6]),([0,1,2,3,4,5,6,7],[]),([8,7,7,0,1,2,3,4,5,6,7],[7,8])])
def ebbtideref08_sought.B12:List Nat:=[0,1,0,0,12,28,60,127,255,511]
theorem ebbtideref08_sought.tab12:rtab .any (opsOf Try.f77 12)=ebbtideref08_sought.T12:=by kernel_rfl
theorem ebbtideref08_sought.bits12:waitsOk ebbtideref08_sought.T12.2 ebbtideref08_sought.B12=true:=by kernel_rfl
set_option maxHeartbeats 8000000 in
set_option maxRecDepth 100000 in
theorem ebbtideref08_sought.calls (k:Nat) (Zc:Int) (Zb:Bool) (Ze:Option Addr) (Zd:Nat) (Za:List (S50)) (a1:Int) (A2:Option Addr) (c2:Nat) (l2:List (S79)) (r1:List Int) (r2:List (S79)) (w:World) (Zp:Kd.C k50 w Ze Za.length Za) (Zq:Za.length≤Zd) (hr2:Kd.C k79 w A2 l2.length l2) (hc2:l2.length≤c2) (h:ebbtideref08_sought.f k Zc Zb Za a1 l2=some (r1,r2)):
  Calls Try.prog 77 #[.agg #[.int .i64 Zc, .bool Zb, .slice Ze Za.length Zd], .int .i64 a1, .slice A2 l2.length c2] w fun e w'=> ∃ v0_ v1_:Value,e= .returned (.agg #[v0_,v1_])∧Kd.R (Kd.int .i64) 3 w' w.heap.size (fun _=>True) v0_ r1∧Kd.R k79 79 w' w.heap.size (fun _=>True) v1_ r2∧Below w.heap.size w w':=by
 have hu24:=Try.underlying24;have hu119:=Try.underlying119;have hu79:=Try.underlying79;have Zj:=Ya Zp;have Zs:=Ya Zq;clear Zp Zq;have HR2:=Ya hr2;have HC2:=Ya hc2;clear hr2 hc2;have HB:=Ya (Yo w.heap.size w);have H:=h;unfold ebbtideref08_sought.f at H;clear h;by_cases c4:([]:List Int).length<17592186044416
 rotate_left
 ·rw[Yy c4] at H
  exact absurd H (by simp)
 rw[Yx c4] at H;have LMc4:=Ya c4;clear c4;obtain⟨y317,hy317⟩: ∃ y_:List Int,y_=(([]:List Int) ++ [a1]):=⟨_,rfl⟩;rw[← hy317] at H;have Ny317:=Ya hy317;clear hy317;by_cases c5:([]:List (S79)).length<8796093022208
 rotate_left
 ·rw[Yy c5] at H
  exact absurd H (by simp)
 rw[Yx c5] at H;have LMc5:=Ya c5;clear c5;obtain⟨y320,hy320⟩: ∃ y_:List (S79),y_=(([]:List (S79)) ++ [(⟨0,false⟩:S79)]):=⟨_,rfl⟩;rw[← hy320] at H;have Ny320:=Ya hy320;clear hy320;have H':=Ya H;clear H;go_enter Try.func77,Try.ntmps77;go_wp2_with (first|(refine bx 3 24 #[.int .i64 Zc, .bool Zb, .slice Ze Za.length Zd] ?_;intro Jy hg w6 Zf hb;have Zo:=Ya (Zf);have GW314:=Ya ((sz hg));have GE314:=Ya ((sz hg));replace HB:=Ya (Yk bl hb);clear hb Zf hg)|(refine bx 6 119 #[.slice none 0 0, .slice none 0 0] ?_;intro gb315 hg w7 Zf hb;have Xh:=Ya (Zf);have GW315:=Ya ((sz hg));have GE315:=Ya ((sz hg));replace HB:=Ya (Yk bl hb);have NB314_315:=Ya (by rw[hg];exact Nat.ne_of_lt (blk_lt (bk Zo)):Jy≠gb315);have NB315_314:=Ya (by rw[hg];exact Nat.ne_of_gt (blk_lt (bk Zo)):gb315≠Jy);replace Zo:=Ya (Yn (bk Zo) hb);clear hb Zf hg)|(refine bx 7 119 #[.slice none 0 0, .slice none 0 0] ?_;intro Wc hg w8 Zf hb;have Zn:=Ya (Zf);have GW316:=Ya ((sz hg));have GE316:=Ya ((sz hg));replace HB:=Ya (Yk bl hb);have Jf:=Ya (by rw[hg];exact Nat.ne_of_lt (blk_lt (bk Zo)):Jy≠Wc);have NB316_314:=Ya (by rw[hg];exact Nat.ne_of_gt (blk_lt (bk Zo)):Wc≠Jy);replace Zo:=Ya (Yn (bk Zo) hb);have Jg:=Ya (by rw[hg];exact Nat.ne_of_lt (blk_lt (bk Xh)):gb315≠Wc);have NB316_315:=Ya (by rw[hg];exact Nat.ne_of_gt (blk_lt (bk Xh)):Wc≠gb315);replace Xh:=Ya (Yn (bk Xh) hb);clear hb Zf hg;have hnb9:=NB316_314.out;have hnc9:=Jf.out;have hnb10:=NB316_315.out;have hnc10:=Jg.out;have hcz11_0:w8.cell? ⟨Wc,0,none⟩=some (.slice none 0 0):=bc Zn 0;have hcz11_1:w8.cell? ⟨Wc,1,none⟩=some (.slice none 0 0):=bc Zn 1;have hfz11_0:=Yf Zn.out 0;have hfz11_1:=Yf Zn.out 1)|((with_reducible refine gate_builtin (b:= .append) (xs:= #[.tmp 11, .tmp 13]) rfl ?_);at_builtin;refine Kd.R_append (Kd.int .i64) (w0:=w) w.heap.size rfl (.tmp 11) (.tmp 13) 31 3 (.int .i64 0) 8 rfl Try.underlying31 info3 rfl (by decide) (by omega) (.slice none 0 0) ([]:List Int) a1 [.int .i64 a1] (fun _=>True) (fun _=>False) rfl rfl ?aP (fun _ hk=>hk.elim) ?aF ?aO ?aB ?aS ?aL ?_;(case aP=>exact rfl);(case aB=>exact bl);(case aF=>exact(fun _ _=>trivial));(case aO=>exact((Kd.R_nil _ _ _ _ (fun _=>True))));(case aS=>exact(Yi bl));(case aL=>have:=LMc4.out;omega);intro v318 w12 ho hb hg hat;rw[← Ny317.out] at ho;replace Zo:=Ya (blk_grown (bk Zo) hg (by simp[Value.ownBlock]));replace Xh:=Ya (blk_grown (bk Xh) hg (by simp[Value.ownBlock]));replace Zn:=Ya (blk_grown (bk Zn) hg (by simp[Value.ownBlock]));replace HB:=Ya (hb);have HO319:=Ya (ho);clear ho hb hg hat;obtain⟨Ao13,co13,eo13⟩:=Kd.R_slice HO319.out;subst eo13;have Jp:w12.cell? ⟨Wc,0,none⟩=some (.slice none 0 0):=bc Zn 0;have Jq:w12.cell? ⟨Wc,1,none⟩=some (.slice none 0 0):=bc Zn 1;have Jr:=Yf Zn.out 0;have Js:=Yf Zn.out 1)|((with_reducible refine gate_builtin (b:= .append) (xs:= #[.tmp 17, .tmp 19]) rfl ?_);at_builtin;refine Kd.R_append k79 (w0:=w) w.heap.size rfl (.tmp 17) (.tmp 19) 67 79 (.agg #[(.int .i64 0),(.bool false)]) 16 rfl Try.underlying67 info79 rfl (by decide) (by omega) (.slice none 0 0) ([]:List (S79)) (⟨0,false⟩:S79) [.int .i64 0, .bool false] (fun _=>True) (fun _=>False) rfl (by first|(go_simp;done)|(go_simp;rfl)) ?aP (fun _ hk=>hk.elim) ?aF ?aO ?aB ?aS ?aL ?_;(case aP=>exact k79_mkM _ _ _ (⟨0,false⟩:S79));(case aB=>exact bl);(case aF=>exact(fun _ _=>trivial));(case aO=>exact((Kd.R_nil _ _ _ _ (fun _=>True))));(case aS=>exact(Yi bl));(case aL=>have:=LMc5.out;omega);intro v321 w15 ho hb hg hat;rw[← Ny320.out] at ho;replace Zo:=Ya (blk_grown (g:=Jy) (o:= .cells #[.int .i64 Zc, .bool Zb, .slice Ze Za.length Zd] 24 (0,0)) (by(with_reducible repeat(first|refine Yl ?_ _|refine Ym ?_|refine Yj ?_ _));refine blk_far ?_ Jf.out _;(with_reducible repeat(first|refine Yl ?_ _|refine Ym ?_|refine Yj ?_ _));exact Zo.out) hg (by simp[Value.ownBlock]));replace Xh:=Ya (blk_grown (g:=gb315) (o:= .cells #[.slice none 0 0, .slice none 0 0] 119 (0,0)) (by(with_reducible repeat(first|refine Yl ?_ _|refine Ym ?_|refine Yj ?_ _));refine blk_far ?_ Jg.out _;(with_reducible repeat(first|refine Yl ?_ _|refine Ym ?_|refine Yj ?_ _));exact Xh.out) hg (by simp[Value.ownBlock]));replace HO319:=Ya (Kd.R_grown (by(with_reducible repeat(first|apply Yr|apply Yq|apply Yp));exact(Kd.R_mono (Kd.R_far (p:=⟨Wc,0,none⟩) (Kd.R_types HO319.out Zn.out (by decide)) (fun _ hk=>hk.2) (.slice Ao13 y317.length co13)) (fun _ h_=>h_.1))) hg (fun _ _=>by simp[Value.ownBlock]));replace Zn:=Ya (blk_grown (g:=Wc) (o:= .cells #[.slice Ao13 y317.length co13, .slice none 0 0] 119 (0,0)) (by(with_reducible repeat(first|refine Yl ?_ _|refine Ym ?_|refine Yj ?_ _));refine YA (cs:= #[.slice none 0 0, .slice none 0 0]) ?_ 0 _ rfl;(with_reducible repeat(first|refine Yl ?_ _|refine Ym ?_|refine Yj ?_ _));exact Zn.out) hg (by simp[Value.ownBlock]));replace HB:=Ya (hb);have HO322:=Ya (ho);clear ho hb hg hat;obtain⟨Ao16,co16,eo16⟩:=Kd.R_slice HO322.out;subst eo16;have Ww:w15.cell? ⟨Wc,0,none⟩=some (.slice Ao13 y317.length co13):=bc Zn 0;have Wx:w15.cell? ⟨Wc,1,none⟩=some (.slice none 0 0):=bc Zn 1;have Wy:=Yf Zn.out 0;have Wz:=Yf Zn.out 1));go_loopg [8] k (fun kq v8 w'=> ∃ (Zi:Int) (Vm:List Int) (x317001_1:List (S79)) (u317000:Value) (u317001:Value),v8= .int .i64 Zi∧Aside0 (ebbtideref08_sought.l0 kq l2 Zi Zc Zb Za Vm x317001_1=some (r1,r2))∧Aside0 (kq≤k)∧Aside0 (Kd.R (Kd.int .i64) 3 w' w.heap.size (fun _=>True) u317000 Vm)∧Aside0 (Kd.R k79 79 w' w.heap.size (fun _=>True) u317001 x317001_1)∧Aside0 (w'.heap[Jy]? =some (.cells #[.int .i64 Zc, .bool Zb,(.slice Ze Za.length Zd)] 24 (0,0)))∧Aside0 (w'.heap[gb315]? =some (.cells #[(.slice none 0 0),(.slice none 0 0)] 119 (0,0)))∧Aside0 (w'.heap[Wc]? =some (.cells #[u317000,u317001] 119 (0,0)))∧Aside0 (Below w.heap.size w w'))
 case atStart=>exact⟨(0),(y317),(y320),(.slice Ao13 y317.length co13),(.slice Ao16 y320.length co16),(by first|rfl|(simp;done)|(simp[*];done)),H',⟨Nat.le_refl _⟩,⟨by(with_reducible repeat(first|apply Yr|apply Yq|apply Yp));exact Kd.R_mono (Kd.R_far (p:=⟨Wc,1,none⟩) (Kd.R_types HO319.out Zn.out (by decide)) (fun _ hk=>hk.2) (.slice Ao16 y320.length co16)) (fun _ hk=>trivial)⟩,⟨by(with_reducible repeat(first|apply Yr|apply Yq|apply Yp));exact Kd.R_mono (Kd.R_far (p:=⟨Wc,1,none⟩) (Kd.R_types HO322.out Zn.out (by decide)) (fun _ hk=>hk.2) (.slice Ao16 y320.length co16)) (fun _ hk=>trivial)⟩,⟨by(with_reducible repeat(first|refine Yl ?_ _|refine Ym ?_|refine Yj ?_ _));refine blk_far ?_ Jf.out _;(with_reducible repeat(first|refine Yl ?_ _|refine Ym ?_|refine Yj ?_ _));exact Zo.out⟩,⟨by(with_reducible repeat(first|refine Yl ?_ _|refine Ym ?_|refine Yj ?_ _));refine blk_far ?_ Jg.out _;(with_reducible repeat(first|refine Yl ?_ _|refine Ym ?_|refine Yj ?_ _));exact Xh.out⟩,⟨by(with_reducible repeat(first|refine Yl ?_ _|refine Ym ?_|refine Yj ?_ _));refine YA (cs:= #[.slice Ao13 y317.length co13, .slice none 0 0]) ?_ 1 _ rfl;(with_reducible repeat(first|refine Yl ?_ _|refine Ym ?_|refine Yj ?_ _));exact Zn.out⟩,⟨bl⟩⟩
 case round=>
  clear H';try clear c2
  try clear c4
  try clear c5
  try clear hcz11_0
  try clear hcz11_1
  try clear Jp
  try clear Jq
  try clear Ww
  try clear Wx
  try clear hfz11_0
  try clear hfz11_1
  try clear Jr
  try clear Js
  try clear Wy
  try clear Wz
  obtain⟨Zi,Vm,x317001_1,u317000,u317001,rfl,HA,HK1,HO_317000,HO_317001,Zo,Xh,Zn,HB⟩:=hrel;cases gk with
  |zero=>exact absurd HA.out (by simp[ebbtideref08_sought.l0])
  |succ k1=>
   have H:=HA.out;clear HA;simp only[ebbtideref08_sought.l0] at H;by_cases c18:Zi<(Vm.length:Int)
   rotate_left
   ·rw[Yy c18] at H
    have c18b0:decide (Zi<(Vm.length:Int))=false:=Yw c18;clear c18;simp only[Option.some.injEq,Prod.mk.injEq] at H;obtain⟨rfl,rfl⟩:=H;have hnb60:=NB316_314.out;have hnc60:=Jf.out;have hnb61:=NB316_315.out;have hnc61:=Jg.out;have hcz62_0:wr.cell? ⟨Wc,0,none⟩=some (u317000):=bc Zn 0;have hcz62_1:wr.cell? ⟨Wc,1,none⟩=some (u317001):=bc Zn 1;have hfz62_0:=Yf Zn.out 0;have hfz62_1:=Yf Zn.out 1;obtain⟨Ao63,co63,eo63⟩:=Kd.R_slice HO_317000.out;subst eo63;have hnb64:=NB315_314.out;have hnc64:=NB314_315.out;have hcz65_0:wr.cell? ⟨gb315,0,none⟩=some (.slice none 0 0):=bc Xh 0;have hcz65_1:wr.cell? ⟨gb315,1,none⟩=some (.slice none 0 0):=bc Xh 1;have hfz65_0:=Yf Xh.out 0;have hfz65_1:=Yf Xh.out 1;obtain⟨Ao66,co66,eo66⟩:=Kd.R_slice HO_317001.out;subst eo66;go_wp2;refine bodyPost_ret (results_cell_row rfl _ _ gb315 119 #[.slice Ao63 Vm.length co63, .slice Ao66 x317001_1.length co66] (0,0) _ rfl (by(with_reducible repeat(first|refine Yl ?_ _|refine Ym ?_|refine Yj ?_ _));refine YA (cs:= #[.slice Ao63 Vm.length co63, .slice none 0 0]) ?_ 1 _ rfl;(with_reducible repeat(first|refine Yl ?_ _|refine Ym ?_|refine Yj ?_ _));refine YA (cs:= #[.slice none 0 0, .slice none 0 0]) ?_ 0 _ rfl;(with_reducible repeat(first|refine Yl ?_ _|refine Ym ?_|refine Yj ?_ _));exact Xh.out) Try.underlying119 rfl (by kernel_rfl)) rfl ?_;exact⟨_,_,by first|rfl|(simp[errW_none,errW_some]<;>rfl)|(simp[*,errW_none,errW_some]<;>rfl),by(with_reducible repeat(first|apply Yr|apply Yq|apply Yp));exact Kd.R_mono (Kd.R_far (p:=⟨gb315,1,none⟩) (Kd.R_far (p:=⟨gb315,0,none⟩) (Kd.R_types HO_317000.out Xh.out (by decide)) (fun _ hk=>hk.2) (.slice Ao63 Vm.length co63)) (fun _ hk=>hk.2) (.slice Ao66 x317001_1.length co66)) (fun _ hk=>trivial),by(with_reducible repeat(first|apply Yr|apply Yq|apply Yp));exact Kd.R_mono (Kd.R_far (p:=⟨gb315,1,none⟩) (Kd.R_far (p:=⟨gb315,0,none⟩) (Kd.R_types HO_317001.out Xh.out (by decide)) (fun _ hk=>hk.2) (.slice Ao63 Vm.length co63)) (fun _ hk=>hk.2) (.slice Ao66 x317001_1.length co66)) (fun _ hk=>trivial),bl⟩
   rw[Yx c18] at H;have c18b0:decide (Zi<(Vm.length:Int))=true:=Yv c18;clear c18;have H':=Ya H;clear H;have hnb19:=NB316_314.out;have hnc19:=Jf.out;have hnb20:=NB316_315.out;have hnc20:=Jg.out;have hcz21_0:wr.cell? ⟨Wc,0,none⟩=some (u317000):=bc Zn 0;have hcz21_1:wr.cell? ⟨Wc,1,none⟩=some (u317001):=bc Zn 1;have hfz21_0:=Yf Zn.out 0;have hfz21_1:=Yf Zn.out 1;obtain⟨Ao22,co22,eo22⟩:=Kd.R_slice HO_317000.out;subst eo22;go_wp2;go_loopg [9] k1 (fun kq v9 w'=> ∃ (Zu:Int) (Zy:List Int) (Xo:List (S79)) (u317000:Value) (u317001:Value),v9= .int .i64 Zu∧Aside0 (ebbtideref08_sought.l1 kq l2 Zi Zu Zc Zb Za Zy Xo=some (r1,r2))∧Aside0 (kq≤k1)∧Aside0 (Kd.R (Kd.int .i64) 3 w' w.heap.size (fun _=>True) u317000 Zy)∧Aside0 (Kd.R k79 79 w' w.heap.size (fun _=>True) u317001 Xo)∧Aside0 (w'.heap[Jy]? =some (.cells #[.int .i64 Zc, .bool Zb,(.slice Ze Za.length Zd)] 24 (0,0)))∧Aside0 (w'.heap[gb315]? =some (.cells #[(.slice none 0 0),(.slice none 0 0)] 119 (0,0)))∧Aside0 (w'.heap[Wc]? =some (.cells #[u317000,u317001] 119 (0,0)))∧Aside0 (Below w.heap.size w w'))
   case atStart=>exact⟨(0),(Vm),(x317001_1),(.slice Ao22 Vm.length co22),(u317001),(by first|rfl|(simp;done)|(simp[*];done)),H',⟨Nat.le_refl _⟩,⟨HO_317000.out⟩,⟨HO_317001.out⟩,⟨Zo.out⟩,⟨Xh.out⟩,⟨Zn.out⟩,⟨HB.out⟩⟩
   case round=>
    clear H';try clear c2
    try clear c4
    try clear c5
    try clear c18
    try clear c18b0
    try clear hcz11_0
    try clear hcz11_1
    try clear Jp
    try clear Jq
    try clear Ww
    try clear Wx
    try clear hcz21_0
    try clear hcz21_1
    try clear hfz11_0
    try clear hfz11_1
    try clear Jr
    try clear Js
    try clear Wy
    try clear Wz
    try clear hfz21_0
    try clear hfz21_1
    obtain⟨Zu,Zy,Xo,u317000,u317001,rfl,HA,HK2,HO_317000,HO_317001,Zo,Xh,Zn,HB⟩:=hrel;cases gk with
    |zero=>exact absurd HA.out (by simp[ebbtideref08_sought.l1])
    |succ k2=>
     have H:=HA.out;clear HA;simp only[ebbtideref08_sought.l1] at H;by_cases c23:Zu<(l2.length:Int)
     rotate_left
     ·rw[Yy c23] at H
      have c23b0:decide (Zu<(l2.length:Int))=false:=Yw c23;clear c23;have H':=Ya H;clear H;go_wp2;go_roundg k2
      case measure=>have:=HK1.out;have:=HK2.out;omega
      case rel=>exact⟨(wrap64 (Zi+1)),(Zy),(Xo),(u317000),(u317001),(by first|rfl|(simp;done)|(simp[*];done)),H',⟨by have:=HK1.out;have:=HK2.out;omega⟩,⟨HO_317000.out⟩,⟨HO_317001.out⟩,⟨Zo.out⟩,⟨Xh.out⟩,⟨Zn.out⟩,⟨HB.out⟩⟩
     rw[Yx c23] at H;have c23b0:decide (Zu<(l2.length:Int))=true:=Yv c23;clear c23;by_cases c24:0≤Zu
     rotate_left
     ·rw[Yy c24] at H
      exact absurd H (by simp)
     rw[Yx c24] at H;have c24b0:decide (0≤Zu)=true:=Yv c24;clear c24;replace H:=Option.bind_eq_some_iff.mp H;obtain⟨t324,A250,H⟩:=H;try dsimp only at H
     have A25:=Ya A250;clear A250;by_cases c26:0≤Zi
     rotate_left
     ·rw[Yy c26] at H
      exact absurd H (by simp)
     rw[Yx c26] at H;have c26b0:decide (0≤Zi)=true:=Yv c26;clear c26;by_cases c27:Zi<(Zy.length:Int)
     rotate_left
     ·rw[Yy c27] at H
      exact absurd H (by simp)
     rw[Yx c27] at H;have c27b0:decide (Zi<(Zy.length:Int))=true:=Yv c27;clear c27;by_cases c28:t324=(rd Zy Zi)
     rotate_left
     ·rw[Yy c28] at H
      have c28b0:(t324 == (rd Zy Zi))=false:=beq_eq_false_iff_ne.mpr c28;have c28b1:(t324 != (rd Zy Zi))=true:=bne_iff_ne.mpr c28;have H':=Ya H;clear H;try go_wp2
      replace HO_317000:=Ya (Yp HO_317000.out);replace HO_317001:=Ya (Yp HO_317001.out);replace Zo:=Ya (Ym Zo.out);replace Xh:=Ya (Ym Xh.out);replace Zn:=Ya (Ym Zn.out);replace HB:=Ya (Yg HB.out);have p323:0≤(Zu:Int):=od;have q323:Zu<(l2.length:Int):=od;obtain⟨Vx,e323,Uo,Up⟩:=at_T79 HR2.out Zu p323 q323;have Ue:=Up;have Uf:=Uo;cases e323;replace Uo:=hc HB Uo;replace Up:=hc HB Up;replace p323:=eq_true p323;replace q323:=eq_true q323;obtain⟨Ao58,co58,eo58⟩:=Kd.R_slice HO_317000.out
      (first|subst eo58|(injection eo58 with f1_ f2_ f3_;have f4_:=f1_.symm;have f5_:=f3_.symm;clear f1_ f2_ f3_;subst f4_;subst f5_))
      have p325:0≤(Zi:Int):=od;have q325:Zi<(Zy.length:Int):=od;obtain⟨ad325,e325,hx325_0⟩:=Kd.at_int (Kd.R_reads' HO_317000.out).2.2 Zi p325 q325;cases e325;replace p325:=eq_true p325;replace q325:=eq_true q325;refine start_ (n:=23) (S:=fun w'=>w'.cell? ⟨Jy,0,none⟩=some (.int .i64 Zc)∧w'.cell? ⟨Jy,1,none⟩=some (.bool Zb)∧w'.cell? ⟨Jy,2,none⟩=some (.slice Ze Za.length Zd)∧w'.cell? ⟨Wc,0,none⟩=some (.slice (some ad325) Zy.length co58)∧w'.cell? ⟨Wc,1,none⟩=some (u317001)∧w'.cell? (Vx.add ((Zu).toNat * 2))=some (.int .i64 ((rd_T79 l2 Zu).f0))∧w'.cell? ⟨(Vx.add ((Zu).toNat * 2)).block,(Vx.add ((Zu).toNat * 2)).off+1,none⟩=some (.bool ((rd_T79 l2 Zu).f1))∧w'.cell? (ad325.add (Zi).toNat)=some (.int .i64 (rd Zy Zi))) (ds:=[]) #[false,false,false,false,false,false,false,false,false,false,false,false,false,false,false,false,false,false,false,false,false,false,false] (by kernel_rfl) rfl rfl ⟨(Yc Zo.out 0).trans rfl,(Yc Zo.out 1).trans rfl,(Yc Zo.out 2).trans rfl,(Yc Zn.out 0).trans rfl,(Yc Zn.out 1).trans rfl,((HB.out.cell (Yb w _ Uf)).trans Uf),((HB.out.cell (Yb w _ Ue)).trans Ue),hx325_0⟩ (fun hHeld=> ?_);refine with_tabW ebbtideref08_sought.tab10 ebbtideref08_sought.bits10 (fun HT_ HW_=> ?_);generalize wr.drew=w57 at HO_317000 HO_317001 Zo Xh Zn HB Uo Up hx325_0 hHeld ⊢;refine pu 1 36 (bm 23 2) ?_;refine pu 2 37 (bm 23 6) ?_;refine pu 3 38 (bm 23 14) ?_;refine pu 6 41 (bm 23 78) ?_;refine pu 8 43 (bm 23 334) ?_;refine ta 0 35 (bm 23 335) hHeld ?_;refine ta 4 39 (bm 23 351) hHeld ?_;refine ta 7 42 (bm 23 479) hHeld ?_;refine pu 9 44 (bm 23 991) ?_;refine ta 10 45 (bm 23 2015) hHeld ?_;refine on 5 (some 40) (bm 23 2047) fun K hK=> ?_
      refine gs Try.func42 #[.agg #[.int .i64 Zc, .bool Zb, .slice Ze Za.length Zd], .agg #[.int .i64 ((rd_T79 l2 Zu).f0), .bool ((rd_T79 l2 Zu).f1)]] ?_
      with_reducible refine(ebbtideref07_From.calls Zc Zb _ _ Za ((rd_T79 l2 Zu).f0) ((rd_T79 l2 Zu).f1) t324 _ ?side1 ?side2 A25.out).mono ?_
      (case side1=>exact(Yt Zj.out HB.out))
      (case side2=>exact Zs.out)
      rintro e w59 ⟨rfl,hb⟩;have HS7_:=(hb.cell (Yb _ _ (hHeld.2.2.2.2.2.2.2))).trans (hHeld.2.2.2.2.2.2.2);refine⟨_,rfl,?_⟩;replace HO_317000:=Ya (Ys HO_317000.out hb);replace HO_317001:=Ya (Ys HO_317001.out hb);replace Zo:=Ya (Yn Zo.out hb);replace Xh:=Ya (Yn Xh.out hb);replace Zn:=Ya (Yn Zn.out hb);replace HB:=Ya (Yk HB.out hb)
      (try clear hb)
      (try clear hb2)
      (try clear hk)
      (try clear hi)
      refine hK.out _ _ ⟨bc Zo 0,bc Zo 1,bc Zo 2,bc Zn 0,bc Zn 1,(hc HB Uf),(hc HB Ue),HS7_⟩ (fun hHeld=> ?_);clear hK K;refine nm ?_;refine pu 11 46 (bm 23 4095) ?_;refine pu 12 47 (bm 23 8191) ?_;refine pure_ (i:=13) (N:=some 48) (v:=undef) (a':= ?_) #[true,true,true,true,true,true,true,true,true,true,true,true,true,true,false,false,false,false,false,false,false,false,false] rfl rfl (any_of HT_.out (by kernel_rfl)) (fun _ _ _ h=>h) (Or.inr ⟨by rfl,rfl⟩) ?_ ?_
      rotate_left
      ·simp only[Act.put,List.setIfInBounds_toArray,List.set_cons_zero,List.set_cons_succ,i64_w,i32_w]
       rfl
      refine pure_ (i:=14) (N:=some 49) (v:=undef) (a':= ?_) #[true,true,true,true,true,true,true,true,true,true,true,true,true,true,true,false,false,false,false,false,false,false,false] rfl rfl (any_of HT_.out (by kernel_rfl)) (fun _ _ _ h=>h) (Or.inr ⟨by rfl,rfl⟩) ?_ ?_
      rotate_left
      ·simp only[Act.put,List.setIfInBounds_toArray,List.set_cons_zero,List.set_cons_succ,i64_w,i32_w]
       rfl
      refine pure_ (i:=15) (N:=some 50) (v:=undef) (a':= ?_) #[true,true,true,true,true,true,true,true,true,true,true,true,true,true,true,true,false,false,false,false,false,false,false] rfl rfl (any_of HT_.out (by kernel_rfl)) (fun _ _ _ h=>h) (Or.inr ⟨by rfl,rfl⟩) ?_ ?_
      rotate_left
      ·simp only[Act.put,List.setIfInBounds_toArray,List.set_cons_zero,List.set_cons_succ,i64_w,i32_w]
       rfl
      refine pure_ (i:=16) (N:=some 51) (v:=undef) (a':= ?_) #[true,true,true,true,true,true,true,true,true,true,true,true,true,true,true,true,true,false,false,false,false,false,false] rfl rfl (any_of HT_.out (by kernel_rfl)) (fun _ _ _ h=>h) (Or.inr ⟨by rfl,rfl⟩) ?_ ?_
      rotate_left
      ·simp only[Act.put,List.setIfInBounds_toArray,List.set_cons_zero,List.set_cons_succ,i64_w,i32_w]
       rfl
      refine pure_ (i:=17) (N:=some 52) (v:=undef) (a':= ?_) #[true,true,true,true,true,true,true,true,true,true,true,true,true,true,true,true,true,true,false,false,false,false,false] rfl rfl (any_of HT_.out (by kernel_rfl)) (fun _ _ _ h=>h) (Or.inr ⟨by rfl,rfl⟩) ?_ ?_
      rotate_left
      ·simp only[Act.put,List.setIfInBounds_toArray,List.set_cons_zero,List.set_cons_succ,i64_w,i32_w]
       rfl
      refine pure_ (i:=18) (N:=some 53) (v:=undef) (a':= ?_) #[true,true,true,true,true,true,true,true,true,true,true,true,true,true,true,true,true,true,true,false,false,false,false] rfl rfl (any_of HT_.out (by kernel_rfl)) (fun _ _ _ h=>h) (Or.inr ⟨by rfl,rfl⟩) ?_ ?_
      rotate_left
      ·simp only[Act.put,List.setIfInBounds_toArray,List.set_cons_zero,List.set_cons_succ,i64_w,i32_w]
       rfl
      refine pure_ (i:=19) (N:=some 54) (v:=undef) (a':= ?_) #[true,true,true,true,true,true,true,true,true,true,true,true,true,true,true,true,true,true,true,true,false,false,false] rfl rfl (any_of HT_.out (by kernel_rfl)) (fun _ _ _ h=>h) (Or.inr ⟨by rfl,rfl⟩) ?_ ?_
      rotate_left
      ·simp only[Act.put,List.setIfInBounds_toArray,List.set_cons_zero,List.set_cons_succ,i64_w,i32_w]
       rfl
      refine pure_ (i:=20) (N:=some 55) (v:=undef) (a':= ?_) #[true,true,true,true,true,true,true,true,true,true,true,true,true,true,true,true,true,true,true,true,true,false,false] rfl rfl (any_of HT_.out (by kernel_rfl)) (fun _ _ _ h=>h) (Or.inr ⟨by rfl,rfl⟩) ?_ ?_
      rotate_left
      ·simp only[Act.put,List.setIfInBounds_toArray,List.set_cons_zero,List.set_cons_succ,i64_w,i32_w]
       rfl
      refine pure_ (i:=21) (N:=some 56) (v:=undef) (a':= ?_) #[true,true,true,true,true,true,true,true,true,true,true,true,true,true,true,true,true,true,true,true,true,true,false] rfl rfl (any_of HT_.out (by kernel_rfl)) (fun _ _ _ h=>h) (Or.inr ⟨by rfl,rfl⟩) ?_ ?_
      rotate_left
      ·simp only[Act.put,List.setIfInBounds_toArray,List.set_cons_zero,List.set_cons_succ,i64_w,i32_w]
       rfl
      refine pu 22 57 (bm 23 8388607) ?_;refine done_ (done_of HT_.out (by kernel_rfl)) ?_;try go_wp2
      go_roundg k2
      case measure=>have:=HK1.out;have:=HK2.out;omega
      case rel=>exact⟨(wrap64 (Zu+1)),(Zy),(Xo),(.slice (some ad325) Zy.length co58),(u317001),(by first|rfl|(simp;done)|(simp[*];done)),H',⟨by have:=HK1.out;have:=HK2.out;omega⟩,⟨HO_317000.out⟩,⟨HO_317001.out⟩,⟨Zo.out⟩,⟨Xh.out⟩,⟨Zn.out⟩,⟨HB.out⟩⟩
     rw[Yx c28] at H;have c28b0:(t324 == (rd Zy Zi))=true:=beq_iff_eq.mpr c28;have c28b1:(t324 != (rd Zy Zi))=false:=bne_eq_false_iff_eq.mpr c28;clear c28;replace H:=Option.bind_eq_some_iff.mp H;obtain⟨t327,A290,H⟩:=H;try dsimp only at H
     have A29:=Ya A290;clear A290;replace H:=Option.bind_eq_some_iff.mp H;obtain⟨t328,A300,H⟩:=H;try dsimp only at H
     have A30:=Ya A300;clear A300;by_cases c31:t328<0
     rotate_left
     ·rw[Yy c31] at H
      have c31b0:decide (t328<0)=false:=Yw c31;clear c31;have H':=Ya H;clear H;try go_wp2
      replace HO_317000:=Ya (Yp HO_317000.out);replace HO_317001:=Ya (Yp HO_317001.out);replace Zo:=Ya (Ym Zo.out);replace Xh:=Ya (Ym Xh.out);replace Zn:=Ya (Ym Zn.out);replace HB:=Ya (Yg HB.out);have p323:0≤(Zu:Int):=od;have q323:Zu<(l2.length:Int):=od;obtain⟨Vx,e323,Uo,Up⟩:=at_T79 HR2.out Zu p323 q323;have Ue:=Up;have Uf:=Uo;cases e323;replace Uo:=hc HB Uo;replace Up:=hc HB Up;replace p323:=eq_true p323;replace q323:=eq_true q323;obtain⟨Ao52,co52,eo52⟩:=Kd.R_slice HO_317000.out
      (first|subst eo52|(injection eo52 with f1_ f2_ f3_;have f4_:=f1_.symm;have f5_:=f3_.symm;clear f1_ f2_ f3_;subst f4_;subst f5_))
      have p325:0≤(Zi:Int):=od;have q325:Zi<(Zy.length:Int):=od;obtain⟨ad325,e325,hx325_0⟩:=Kd.at_int (Kd.R_reads' HO_317000.out).2.2 Zi p325 q325;cases e325;replace p325:=eq_true p325;replace q325:=eq_true q325;have p326:0≤(Zu:Int):=od;have q326:Zu<(l2.length:Int):=od;obtain⟨ad326,e326,hx326_0,hx326_1⟩:=at_T79 HR2.out Zu p326 q326;have hw326_1:=hx326_1;have hw326_0:=hx326_0;obtain rfl:Vx=ad326:=(by injection e326);replace hx326_0:=hc HB hx326_0;replace hx326_1:=hc HB hx326_1;replace p326:=eq_true p326;replace q326:=eq_true q326;refine start_ (n:=23) (S:=fun w'=>w'.cell? ⟨Jy,0,none⟩=some (.int .i64 Zc)∧w'.cell? ⟨Jy,1,none⟩=some (.bool Zb)∧w'.cell? ⟨Jy,2,none⟩=some (.slice Ze Za.length Zd)∧w'.cell? ⟨Wc,0,none⟩=some (.slice (some ad325) Zy.length co52)∧w'.cell? ⟨Wc,1,none⟩=some (u317001)∧w'.cell? (Vx.add ((Zu).toNat * 2))=some (.int .i64 ((rd_T79 l2 Zu).f0))∧w'.cell? ⟨(Vx.add ((Zu).toNat * 2)).block,(Vx.add ((Zu).toNat * 2)).off+1,none⟩=some (.bool ((rd_T79 l2 Zu).f1))∧w'.cell? (ad325.add (Zi).toNat)=some (.int .i64 (rd Zy Zi))∧w'.cell? (Vx.add ((Zu).toNat * 2))=some (.int .i64 ((rd_T79 l2 Zu).f0))∧w'.cell? ⟨(Vx.add ((Zu).toNat * 2)).block,(Vx.add ((Zu).toNat * 2)).off+1,none⟩=some (.bool ((rd_T79 l2 Zu).f1))) (ds:=[]) #[false,false,false,false,false,false,false,false,false,false,false,false,false,false,false,false,false,false,false,false,false,false,false] (by kernel_rfl) rfl rfl ⟨(Yc Zo.out 0).trans rfl,(Yc Zo.out 1).trans rfl,(Yc Zo.out 2).trans rfl,(Yc Zn.out 0).trans rfl,(Yc Zn.out 1).trans rfl,((HB.out.cell (Yb w _ Uf)).trans Uf),((HB.out.cell (Yb w _ Ue)).trans Ue),hx325_0,((HB.out.cell (Yb w _ hw326_0)).trans hw326_0),((HB.out.cell (Yb w _ hw326_1)).trans hw326_1)⟩ (fun hHeld=> ?_);refine with_tabW ebbtideref08_sought.tab10 ebbtideref08_sought.bits10 (fun HT_ HW_=> ?_);generalize wr.drew=w51 at HO_317000 HO_317001 Zo Xh Zn HB Uo Up hx325_0 hx326_0 hx326_1 hHeld ⊢;refine pu 1 36 (bm 23 2) ?_;refine pu 2 37 (bm 23 6) ?_;refine pu 3 38 (bm 23 14) ?_;refine pu 6 41 (bm 23 78) ?_;refine pu 8 43 (bm 23 334) ?_;refine ta 0 35 (bm 23 335) hHeld ?_;refine ta 4 39 (bm 23 351) hHeld ?_;refine ta 7 42 (bm 23 479) hHeld ?_;refine pu 9 44 (bm 23 991) ?_;refine ta 10 45 (bm 23 2015) hHeld ?_;refine on 5 (some 40) (bm 23 2047) fun K hK=> ?_
      refine gs Try.func42 #[.agg #[.int .i64 Zc, .bool Zb, .slice Ze Za.length Zd], .agg #[.int .i64 ((rd_T79 l2 Zu).f0), .bool ((rd_T79 l2 Zu).f1)]] ?_
      with_reducible refine(ebbtideref07_From.calls Zc Zb _ _ Za ((rd_T79 l2 Zu).f0) ((rd_T79 l2 Zu).f1) t324 _ ?side1 ?side2 A25.out).mono ?_
      (case side1=>exact(Yt Zj.out HB.out))
      (case side2=>exact Zs.out)
      rintro e w53 ⟨rfl,hb⟩;have HS7_:=(hb.cell (Yb _ _ (hHeld.2.2.2.2.2.2.2.1))).trans (hHeld.2.2.2.2.2.2.2.1);refine⟨_,rfl,?_⟩;replace HO_317000:=Ya (Ys HO_317000.out hb);replace HO_317001:=Ya (Ys HO_317001.out hb);replace Zo:=Ya (Yn Zo.out hb);replace Xh:=Ya (Yn Xh.out hb);replace Zn:=Ya (Yn Zn.out hb);replace HB:=Ya (Yk HB.out hb)
      (try clear hb)
      (try clear hb2)
      (try clear hk)
      (try clear hi)
      refine hK.out _ _ ⟨bc Zo 0,bc Zo 1,bc Zo 2,bc Zn 0,bc Zn 1,(hc HB Uf),(hc HB Ue),HS7_,(hc HB hw326_0),(hc HB hw326_1)⟩ (fun hHeld=> ?_);clear hK K;refine nm ?_;refine pu 11 46 (bm 23 4095) ?_;refine pu 12 47 (bm 23 8191) ?_;refine pu 15 50 (bm 23 40959) ?_;refine pu 16 51 (bm 23 106495) ?_;refine pu 17 52 (bm 23 237567) ?_;refine ta 13 48 (bm 23 245759) hHeld ?_;refine ta 14 49 (bm 23 262143) hHeld ?_;refine ta 18 53 (bm 23 524287) hHeld ?_;refine on 19 (some 54) (bm 23 1048575) fun K hK=> ?_
      refine gs Try.func43 #[.agg #[.int .i64 Zc, .bool Zb, .slice Ze Za.length Zd], .agg #[.int .i64 ((rd_T79 l2 Zu).f0), .bool ((rd_T79 l2 Zu).f1)]] ?_
      with_reducible refine(ebbtideref07_To.calls Zc Zb _ _ Za ((rd_T79 l2 Zu).f0) ((rd_T79 l2 Zu).f1) t327 _ ?side1 ?side2 A29.out).mono ?_
      (case side1=>exact(Yt Zj.out HB.out))
      (case side2=>exact Zs.out)
      rintro e w54 ⟨rfl,hb⟩;have HS7_:=(hb.cell (Yb _ _ (hHeld.2.2.2.2.2.2.2.1))).trans (hHeld.2.2.2.2.2.2.2.1);refine⟨_,rfl,?_⟩;replace HO_317000:=Ya (Ys HO_317000.out hb);replace HO_317001:=Ya (Ys HO_317001.out hb);replace Zo:=Ya (Yn Zo.out hb);replace Xh:=Ya (Yn Xh.out hb);replace Zn:=Ya (Yn Zn.out hb);replace HB:=Ya (Yk HB.out hb)
      (try clear hb)
      (try clear hb2)
      (try clear hk)
      (try clear hi)
      obtain⟨Ao55,co55,eo55⟩:=Kd.R_slice HO_317001.out
      (first|subst eo55|(injection eo55 with f1_ f2_ f3_;have f4_:=f1_.symm;have f5_:=f3_.symm;clear f1_ f2_ f3_;subst f4_;subst f5_))
      refine hK.out _ _ ⟨bc Zo 0,bc Zo 1,bc Zo 2,bc Zn 0,bc Zn 1,(hc HB Uf),(hc HB Ue),HS7_,(hc HB hw326_0),(hc HB hw326_1)⟩ (fun hHeld=> ?_);clear hK K;refine nm ?_;refine on 20 (some 55) (bm 23 2097151) fun K hK=> ?_
      refine gs Try.func78 #[.agg #[.slice (some ad325) Zy.length co52, .slice Ao55 Xo.length co55], .int .i64 t327] ?_
      with_reducible refine(ebbtideref08_found_has.calls k2 _ _ Zy _ _ Xo t327 t328 _ ?side1 ?side2 ?side3 ?side4 A30.out).mono ?_
      (case side1=>exact(Kd.R_reads' HO_317000.out).2.2)
      (case side2=>exact(Kd.R_reads' HO_317000.out).2.1)
      (case side3=>exact(Kd.R_reads' HO_317001.out).2.2)
      (case side4=>exact(Kd.R_reads' HO_317001.out).2.1)
      rintro e w56 ⟨rfl,hb⟩;have HS7_:=(hb.cell (Yb _ _ (hHeld.2.2.2.2.2.2.2.1))).trans (hHeld.2.2.2.2.2.2.2.1);refine⟨_,rfl,?_⟩;replace HO_317000:=Ya (Ys HO_317000.out hb);replace HO_317001:=Ya (Ys HO_317001.out hb);replace Zo:=Ya (Yn Zo.out hb);replace Xh:=Ya (Yn Xh.out hb);replace Zn:=Ya (Yn Zn.out hb);replace HB:=Ya (Yk HB.out hb)
      (try clear hb)
      (try clear hb2)
      (try clear hk)
      (try clear hi)
      refine hK.out _ _ ⟨bc Zo 0,bc Zo 1,bc Zo 2,bc Zn 0,bc Zn 1,(hc HB Uf),(hc HB Ue),HS7_,(hc HB hw326_0),(hc HB hw326_1)⟩ (fun hHeld=> ?_);clear hK K;refine nm ?_;refine pu 21 56 (bm 23 4194303) ?_;refine pu 22 57 (bm 23 8388607) ?_;refine done_ (done_of HT_.out (by kernel_rfl)) ?_;try go_wp2
      go_roundg k2
      case measure=>have:=HK1.out;have:=HK2.out;omega
      case rel=>exact⟨(wrap64 (Zu+1)),(Zy),(Xo),(.slice (some ad325) Zy.length co52),(.slice Ao55 Xo.length co55),(by first|rfl|(simp;done)|(simp[*];done)),H',⟨by have:=HK1.out;have:=HK2.out;omega⟩,⟨HO_317000.out⟩,⟨HO_317001.out⟩,⟨Zo.out⟩,⟨Xh.out⟩,⟨Zn.out⟩,⟨HB.out⟩⟩
     rw[Yx c31] at H;have c31b0:decide (t328<0)=true:=Yv c31;clear c31;replace H:=Option.bind_eq_some_iff.mp H;obtain⟨t330,A320,H⟩:=H;try dsimp only at H
     have A32:=Ya A320;clear A320;by_cases c33:Zy.length<17592186044416
     rotate_left
     ·rw[Yy c33] at H
      exact absurd H (by simp)
     rw[Yx c33] at H;have LMc33:=Ya c33;clear c33;obtain⟨y331,hy331⟩: ∃ y_:List Int,y_=(Zy ++ [t330]):=⟨_,rfl⟩;rw[← hy331] at H;have Ny331:=Ya hy331;clear hy331;by_cases c34:Xo.length<8796093022208
     rotate_left
     ·rw[Yy c34] at H
      exact absurd H (by simp)
     rw[Yx c34] at H;have LMc34:=Ya c34;clear c34;obtain⟨y335,hy335⟩: ∃ y_:List (S79),y_=(Xo ++ [(⟨(rd_T79 l2 Zu).f0,(rd_T79 l2 Zu).f1⟩:S79)]):=⟨_,rfl⟩;rw[← hy335] at H;have Ny335:=Ya hy335;clear hy335;have H':=Ya H;clear H;try go_wp2
     replace HO_317000:=Ya (Yp HO_317000.out);replace HO_317001:=Ya (Yp HO_317001.out);replace Zo:=Ya (Ym Zo.out);replace Xh:=Ya (Ym Xh.out);replace Zn:=Ya (Ym Zn.out);replace HB:=Ya (Yg HB.out);have p323:0≤(Zu:Int):=od;have q323:Zu<(l2.length:Int):=od;obtain⟨Vx,e323,Uo,Up⟩:=at_T79 HR2.out Zu p323 q323;have Ue:=Up;have Uf:=Uo;cases e323;replace Uo:=hc HB Uo;replace Up:=hc HB Up;replace p323:=eq_true p323;replace q323:=eq_true q323;obtain⟨Ao36,co36,eo36⟩:=Kd.R_slice HO_317000.out
     (first|subst eo36|(injection eo36 with f1_ f2_ f3_;have f4_:=f1_.symm;have f5_:=f3_.symm;clear f1_ f2_ f3_;subst f4_;subst f5_))
     have p325:0≤(Zi:Int):=od;have q325:Zi<(Zy.length:Int):=od;obtain⟨ad325,e325,hx325_0⟩:=Kd.at_int (Kd.R_reads' HO_317000.out).2.2 Zi p325 q325;cases e325;replace p325:=eq_true p325;replace q325:=eq_true q325;have p326:0≤(Zu:Int):=od;have q326:Zu<(l2.length:Int):=od;obtain⟨ad326,e326,hx326_0,hx326_1⟩:=at_T79 HR2.out Zu p326 q326;have hw326_1:=hx326_1;have hw326_0:=hx326_0;obtain rfl:Vx=ad326:=(by injection e326);replace hx326_0:=hc HB hx326_0;replace hx326_1:=hc HB hx326_1;replace p326:=eq_true p326;replace q326:=eq_true q326;refine start_ (n:=23) (S:=fun w'=>w'.cell? ⟨Jy,0,none⟩=some (.int .i64 Zc)∧w'.cell? ⟨Jy,1,none⟩=some (.bool Zb)∧w'.cell? ⟨Jy,2,none⟩=some (.slice Ze Za.length Zd)∧w'.cell? ⟨Wc,0,none⟩=some (.slice (some ad325) Zy.length co36)∧w'.cell? ⟨Wc,1,none⟩=some (u317001)∧w'.cell? (Vx.add ((Zu).toNat * 2))=some (.int .i64 ((rd_T79 l2 Zu).f0))∧w'.cell? ⟨(Vx.add ((Zu).toNat * 2)).block,(Vx.add ((Zu).toNat * 2)).off+1,none⟩=some (.bool ((rd_T79 l2 Zu).f1))∧w'.cell? (ad325.add (Zi).toNat)=some (.int .i64 (rd Zy Zi))∧w'.cell? (Vx.add ((Zu).toNat * 2))=some (.int .i64 ((rd_T79 l2 Zu).f0))∧w'.cell? ⟨(Vx.add ((Zu).toNat * 2)).block,(Vx.add ((Zu).toNat * 2)).off+1,none⟩=some (.bool ((rd_T79 l2 Zu).f1))) (ds:=[]) #[false,false,false,false,false,false,false,false,false,false,false,false,false,false,false,false,false,false,false,false,false,false,false] (by kernel_rfl) rfl rfl ⟨(Yc Zo.out 0).trans rfl,(Yc Zo.out 1).trans rfl,(Yc Zo.out 2).trans rfl,(Yc Zn.out 0).trans rfl,(Yc Zn.out 1).trans rfl,((HB.out.cell (Yb w _ Uf)).trans Uf),((HB.out.cell (Yb w _ Ue)).trans Ue),hx325_0,((HB.out.cell (Yb w _ hw326_0)).trans hw326_0),((HB.out.cell (Yb w _ hw326_1)).trans hw326_1)⟩ (fun hHeld=> ?_);refine with_tabW ebbtideref08_sought.tab10 ebbtideref08_sought.bits10 (fun HT_ HW_=> ?_);generalize wr.drew=w35 at HO_317000 HO_317001 Zo Xh Zn HB Uo Up hx325_0 hx326_0 hx326_1 hHeld ⊢;refine pu 1 36 (bm 23 2) ?_;refine pu 2 37 (bm 23 6) ?_;refine pu 3 38 (bm 23 14) ?_;refine pu 6 41 (bm 23 78) ?_;refine pu 8 43 (bm 23 334) ?_;refine ta 0 35 (bm 23 335) hHeld ?_;refine ta 4 39 (bm 23 351) hHeld ?_;refine ta 7 42 (bm 23 479) hHeld ?_;refine pu 9 44 (bm 23 991) ?_;refine ta 10 45 (bm 23 2015) hHeld ?_;refine on 5 (some 40) (bm 23 2047) fun K hK=> ?_
     refine gs Try.func42 #[.agg #[.int .i64 Zc, .bool Zb, .slice Ze Za.length Zd], .agg #[.int .i64 ((rd_T79 l2 Zu).f0), .bool ((rd_T79 l2 Zu).f1)]] ?_
     with_reducible refine(ebbtideref07_From.calls Zc Zb _ _ Za ((rd_T79 l2 Zu).f0) ((rd_T79 l2 Zu).f1) t324 _ ?side1 ?side2 A25.out).mono ?_
     (case side1=>exact(Yt Zj.out HB.out))
     (case side2=>exact Zs.out)
     rintro e w37 ⟨rfl,hb⟩;have HS7_:=(hb.cell (Yb _ _ (hHeld.2.2.2.2.2.2.2.1))).trans (hHeld.2.2.2.2.2.2.2.1);refine⟨_,rfl,?_⟩;replace HO_317000:=Ya (Ys HO_317000.out hb);replace HO_317001:=Ya (Ys HO_317001.out hb);replace Zo:=Ya (Yn Zo.out hb);replace Xh:=Ya (Yn Xh.out hb);replace Zn:=Ya (Yn Zn.out hb);replace HB:=Ya (Yk HB.out hb)
     (try clear hb)
     (try clear hb2)
     (try clear hk)
     (try clear hi)
     refine hK.out _ _ ⟨bc Zo 0,bc Zo 1,bc Zo 2,bc Zn 0,bc Zn 1,(hc HB Uf),(hc HB Ue),HS7_,(hc HB hw326_0),(hc HB hw326_1)⟩ (fun hHeld=> ?_);clear hK K;refine nm ?_;refine pu 11 46 (bm 23 4095) ?_;refine pu 12 47 (bm 23 8191) ?_;refine pu 15 50 (bm 23 40959) ?_;refine pu 16 51 (bm 23 106495) ?_;refine pu 17 52 (bm 23 237567) ?_;refine ta 13 48 (bm 23 245759) hHeld ?_;refine ta 14 49 (bm 23 262143) hHeld ?_;refine ta 18 53 (bm 23 524287) hHeld ?_;refine on 19 (some 54) (bm 23 1048575) fun K hK=> ?_
     refine gs Try.func43 #[.agg #[.int .i64 Zc, .bool Zb, .slice Ze Za.length Zd], .agg #[.int .i64 ((rd_T79 l2 Zu).f0), .bool ((rd_T79 l2 Zu).f1)]] ?_
     with_reducible refine(ebbtideref07_To.calls Zc Zb _ _ Za ((rd_T79 l2 Zu).f0) ((rd_T79 l2 Zu).f1) t327 _ ?side1 ?side2 A29.out).mono ?_
     (case side1=>exact(Yt Zj.out HB.out))
     (case side2=>exact Zs.out)
     rintro e w38 ⟨rfl,hb⟩;have HS7_:=(hb.cell (Yb _ _ (hHeld.2.2.2.2.2.2.2.1))).trans (hHeld.2.2.2.2.2.2.2.1);refine⟨_,rfl,?_⟩;replace HO_317000:=Ya (Ys HO_317000.out hb);replace HO_317001:=Ya (Ys HO_317001.out hb);replace Zo:=Ya (Yn Zo.out hb);replace Xh:=Ya (Yn Xh.out hb);replace Zn:=Ya (Yn Zn.out hb);replace HB:=Ya (Yk HB.out hb)
     (try clear hb)
     (try clear hb2)
     (try clear hk)
     (try clear hi)
     obtain⟨Ao39,co39,eo39⟩:=Kd.R_slice HO_317001.out
     (first|subst eo39|(injection eo39 with f1_ f2_ f3_;have f4_:=f1_.symm;have f5_:=f3_.symm;clear f1_ f2_ f3_;subst f4_;subst f5_))
     refine hK.out _ _ ⟨bc Zo 0,bc Zo 1,bc Zo 2,bc Zn 0,bc Zn 1,(hc HB Uf),(hc HB Ue),HS7_,(hc HB hw326_0),(hc HB hw326_1)⟩ (fun hHeld=> ?_);clear hK K;refine nm ?_;refine on 20 (some 55) (bm 23 2097151) fun K hK=> ?_
     refine gs Try.func78 #[.agg #[.slice (some ad325) Zy.length co36, .slice Ao39 Xo.length co39], .int .i64 t327] ?_
     with_reducible refine(ebbtideref08_found_has.calls k2 _ _ Zy _ _ Xo t327 t328 _ ?side1 ?side2 ?side3 ?side4 A30.out).mono ?_
     (case side1=>exact(Kd.R_reads' HO_317000.out).2.2)
     (case side2=>exact(Kd.R_reads' HO_317000.out).2.1)
     (case side3=>exact(Kd.R_reads' HO_317001.out).2.2)
     (case side4=>exact(Kd.R_reads' HO_317001.out).2.1)
     rintro e w40 ⟨rfl,hb⟩;have HS7_:=(hb.cell (Yb _ _ (hHeld.2.2.2.2.2.2.2.1))).trans (hHeld.2.2.2.2.2.2.2.1);refine⟨_,rfl,?_⟩;replace HO_317000:=Ya (Ys HO_317000.out hb);replace HO_317001:=Ya (Ys HO_317001.out hb);replace Zo:=Ya (Yn Zo.out hb);replace Xh:=Ya (Yn Xh.out hb);replace Zn:=Ya (Yn Zn.out hb);replace HB:=Ya (Yk HB.out hb)
     (try clear hb)
     (try clear hb2)
     (try clear hk)
     (try clear hi)
     refine hK.out _ _ ⟨bc Zo 0,bc Zo 1,bc Zo 2,bc Zn 0,bc Zn 1,(hc HB Uf),(hc HB Ue),HS7_,(hc HB hw326_0),(hc HB hw326_1)⟩ (fun hHeld=> ?_);clear hK K;refine nm ?_;refine pu 21 56 (bm 23 4194303) ?_;refine pu 22 57 (bm 23 8388607) ?_;refine done_ (done_of HT_.out (by kernel_rfl)) ?_;try go_wp2
     replace HO_317000:=Ya (Yp HO_317000.out);replace HO_317001:=Ya (Yp HO_317001.out);replace Zo:=Ya (Ym Zo.out);replace Xh:=Ya (Ym Xh.out);replace Zn:=Ya (Ym Zn.out);replace HB:=Ya (Yg HB.out);have p329:0≤(Zu:Int):=od;have q329:Zu<(l2.length:Int):=od;obtain⟨ad329,e329,hx329_0,hx329_1⟩:=at_T79 HR2.out Zu p329 q329;have hw329_1:=hx329_1;have hw329_0:=hx329_0;obtain rfl:Vx=ad329:=(by injection e329);replace hx329_0:=hc HB hx329_0;replace hx329_1:=hc HB hx329_1;replace p329:=eq_true p329;replace q329:=eq_true q329;refine start_ (n:=12) (S:=fun w'=>w'.cell? ⟨Wc,0,none⟩=some (.slice (some ad325) Zy.length co36)∧w'.cell? ⟨Wc,1,none⟩=some (.slice Ao39 Xo.length co39)∧w'.cell? ⟨Jy,0,none⟩=some (.int .i64 Zc)∧w'.cell? ⟨Jy,1,none⟩=some (.bool Zb)∧w'.cell? ⟨Jy,2,none⟩=some (.slice Ze Za.length Zd)∧w'.cell? (Vx.add ((Zu).toNat * 2))=some (.int .i64 ((rd_T79 l2 Zu).f0))∧w'.cell? ⟨(Vx.add ((Zu).toNat * 2)).block,(Vx.add ((Zu).toNat * 2)).off+1,none⟩=some (.bool ((rd_T79 l2 Zu).f1))) (ds:=[11]) #[false,false,false,false,false,false,false,false,false,false,false,false] (by kernel_rfl) rfl rfl ⟨(Yc Zn.out 0).trans rfl,(Yc Zn.out 1).trans rfl,(Yc Zo.out 0).trans rfl,(Yc Zo.out 1).trans rfl,(Yc Zo.out 2).trans rfl,((HB.out.cell (Yb w _ hw329_0)).trans hw329_0),((HB.out.cell (Yb w _ hw329_1)).trans hw329_1)⟩ (fun hHeld=> ?_);refine with_tabW ebbtideref08_sought.tab11 ebbtideref08_sought.bits11 (fun HT_ HW_=> ?_);generalize w40.drew=w41 at HO_317000 HO_317001 Zo Xh Zn HB hx329_0 hx329_1 hHeld ⊢;refine pu 0 58 (bm 12 1) ?_;refine pu 3 61 (bm 12 9) ?_;refine pu 4 62 (bm 12 25) ?_;refine pu 5 63 (bm 12 57) ?_;refine ta 1 59 (bm 12 59) hHeld ?_;refine ta 2 60 (bm 12 63) hHeld ?_;refine ta 6 64 (bm 12 127) hHeld ?_;refine on 7 (some 65) (bm 12 255) fun K hK=> ?_
     refine gs Try.func43 #[.agg #[.int .i64 Zc, .bool Zb, .slice Ze Za.length Zd], .agg #[.int .i64 ((rd_T79 l2 Zu).f0), .bool ((rd_T79 l2 Zu).f1)]] ?_
     with_reducible refine(ebbtideref07_To.calls Zc Zb _ _ Za ((rd_T79 l2 Zu).f0) ((rd_T79 l2 Zu).f1) t330 _ ?side1 ?side2 A32.out).mono ?_
     (case side1=>exact(Yt Zj.out HB.out))
     (case side2=>exact Zs.out)
     rintro e w42 ⟨rfl,hb⟩;refine⟨_,rfl,?_⟩;replace HO_317000:=Ya (Ys HO_317000.out hb);replace HO_317001:=Ya (Ys HO_317001.out hb);replace Zo:=Ya (Yn Zo.out hb);replace Xh:=Ya (Yn Xh.out hb);replace Zn:=Ya (Yn Zn.out hb);replace HB:=Ya (Yk HB.out hb)
     (try clear hb)
     (try clear hb2)
     (try clear hk)
     (try clear hi)
     refine hK.out _ _ ⟨bc Zn 0,bc Zn 1,bc Zo 0,bc Zo 1,bc Zo 2,(hc HB hw329_0),(hc HB hw329_1)⟩ (fun hHeld=> ?_);clear hK K;refine nm ?_;refine on 8 (some 66) (bm 12 511) fun K hK=> ?_
     refine value_ (w1:= ?_) (v:= ?_) (by rfl) rfl ?_ ?_
     rotate_left 2
     ·go_simp
      constructor
      ·rfl
      ·rfl
     refine hK.out _ _ ⟨(Yc (Yj Zn.out _) 0).trans rfl,(Yc (Yj Zn.out _) 1).trans rfl,(Yc (Yj Zo.out _) 0).trans rfl,(Yc (Yj Zo.out _) 1).trans rfl,(Yc (Yj Zo.out _) 2).trans rfl,(World.cell?_alloc_lt _ _ _ (Yb _ _ ((hc HB hw329_0)))).trans ((hc HB hw329_0)),(World.cell?_alloc_lt _ _ _ (Yb _ _ ((hc HB hw329_1)))).trans ((hc HB hw329_1))⟩ (fun hHeld=> ?_);clear hK K;refine nm ?_;refine on 9 (some 67) (bm 12 1023) fun K hK=> ?_
     refine Kd.R_append_step (Kd.int .i64) (w0:=w) w.heap.size (by rfl) (.tmp 59) (.tmp 66) 31 3 (.int .i64 0) 8 rfl Try.underlying31 info3 rfl (by decide) (by omega) (.slice (some ad325) Zy.length co36) Zy t330 [.int .i64 t330] (fun _=>True) (fun _=>False) rfl rfl ?aP (fun _ hk=>hk.elim) ?aF ?aO ?aB ?aS ?aL ?_
     (case aP=>exact rfl)
     (case aB=>exact HB.out)
     (case aF=>exact(fun _ _=>trivial))
     (case aO=>exact HO_317000.out)
     (case aS=>exact(Yi HB.out))
     (case aL=>have:=LMc33.out;omega)
     intro v332 w43 ho hb hg hat
     rw[← Ny331.out] at ho;replace HO_317001:=Ya (Kd.R_over' HO_317001.out (Kd.R_typed HO_317000.out) (by decide) hg);replace Zo:=Ya (blk_grown Zo.out hg (Kd.R_ne HO_317000.out Zo.out (by decide)));replace Xh:=Ya (blk_grown Xh.out hg (Kd.R_ne HO_317000.out Xh.out (by decide)));replace Zn:=Ya (blk_grown Zn.out hg (Kd.R_ne HO_317000.out Zn.out (by decide)));replace HB:=Ya (hb);have HO333:=Ya (ho);clear HO_317000;clear ho hb hg hat
     obtain⟨Ao44,co44,eo44⟩:=Kd.R_slice HO333.out
     (first|subst eo44|(injection eo44 with f1_ f2_ f3_;have f4_:=f1_.symm;have f5_:=f3_.symm;clear f1_ f2_ f3_;subst f4_;subst f5_))
     refine hK.out _ _ ⟨bc Zn 0,bc Zn 1,bc Zo 0,bc Zo 1,bc Zo 2,(hc HB hw329_0),(hc HB hw329_1)⟩ (fun hHeld=> ?_);clear hK K;refine nm ?_;refine pu 10 68 (bm 12 2047) ?_;refine last_ (i:=11) (N:=none) #[true,true,true,true,true,true,true,true,true,true,true,true] rfl rfl (one_of HT_.out (by kernel_rfl)) (by decide) (fun K hK=> ?_);have hs45:w43.cell? ⟨Wc,0,none⟩=some (.slice (some ad325) Zy.length co36):=bc Zn 0;have hfs45:=Yf Zn.out 0;have hns45_0:=Jf.out;have hns45_1:=Jg.out;have hms45_0:=NB316_314.out;have hms45_1:=NB316_315.out;refine skip_ (w1:= ?_) (by rfl) rfl ?_ ?_
     rotate_left
     ·go_simp
      rfl
     refine hK.out _ _ ?_;clear hK K;refine done_ (done_of HT_.out (by kernel_rfl)) ?_;try go_wp2
     have n0_:Aside0 (Kd.R k79 79 (w43.setCell ⟨Wc,0,none⟩ (.slice Ao44 y331.length co44)) w.heap.size (fun _=>True) (.slice Ao39 Xo.length co39) Xo):=⟨by(with_reducible repeat(first|apply Yr|apply Yq|apply Yp));exact Kd.R_mono (Kd.R_far (p:=⟨Wc,0,none⟩) (Kd.R_types HO_317001.out Zn.out (by decide)) (fun _ hk=>hk.2) (.slice Ao44 y331.length co44)) (fun _ hk=>trivial)⟩;have n1_:Aside0 (Kd.R (Kd.int .i64) 3 (w43.setCell ⟨Wc,0,none⟩ (.slice Ao44 y331.length co44)) w.heap.size (fun _=>True) (.slice Ao44 y331.length co44) y331):=⟨by(with_reducible repeat(first|apply Yr|apply Yq|apply Yp));exact Kd.R_mono (Kd.R_far (p:=⟨Wc,0,none⟩) (Kd.R_types HO333.out Zn.out (by decide)) (fun _ hk=>hk.2) (.slice Ao44 y331.length co44)) (fun _ hk=>trivial)⟩;have n2_:Aside0 ((w43.setCell ⟨Wc,0,none⟩ (.slice Ao44 y331.length co44)).heap[Jy]? =some (.cells #[.int .i64 Zc, .bool Zb, .slice Ze Za.length Zd] 24 (0,0))):=⟨by(with_reducible repeat(first|refine Yl ?_ _|refine Ym ?_|refine Yj ?_ _));refine blk_far ?_ Jf.out _;(with_reducible repeat(first|refine Yl ?_ _|refine Ym ?_|refine Yj ?_ _));exact Zo.out⟩;have n3_:Aside0 ((w43.setCell ⟨Wc,0,none⟩ (.slice Ao44 y331.length co44)).heap[gb315]? =some (.cells #[.slice none 0 0, .slice none 0 0] 119 (0,0))):=⟨by(with_reducible repeat(first|refine Yl ?_ _|refine Ym ?_|refine Yj ?_ _));refine blk_far ?_ Jg.out _;(with_reducible repeat(first|refine Yl ?_ _|refine Ym ?_|refine Yj ?_ _));exact Xh.out⟩;have n4_:Aside0 ((w43.setCell ⟨Wc,0,none⟩ (.slice Ao44 y331.length co44)).heap[Wc]? =some (.cells #[.slice Ao44 y331.length co44, .slice Ao39 Xo.length co39] 119 (0,0))):=⟨by(with_reducible repeat(first|refine Yl ?_ _|refine Ym ?_|refine Yj ?_ _));refine YA (cs:= #[.slice (some ad325) Zy.length co36, .slice Ao39 Xo.length co39]) ?_ 0 _ rfl;(with_reducible repeat(first|refine Yl ?_ _|refine Ym ?_|refine Yj ?_ _));exact Zn.out⟩;have n5_:Aside0 (Below w.heap.size w (w43.setCell ⟨Wc,0,none⟩ (.slice Ao44 y331.length co44))):=⟨bl⟩
     (try clear HO_317001)
     (try clear HO333)
     (try clear Zo)
     (try clear Xh)
     (try clear Zn)
     (try clear HB)
     generalize (w43.setCell ⟨Wc,0,none⟩ (.slice Ao44 y331.length co44))=w46 at n0_ n1_ n2_ n3_ n4_ n5_ ⊢;have HO_317001:=n0_;have HO333:=n1_;have Zo:=n2_;have Xh:=n3_;have Zn:=n4_;have HB:=n5_;clear n0_ n1_ n2_ n3_ n4_ n5_;replace HO_317001:=Ya (Yp HO_317001.out);replace HO333:=Ya (Yp HO333.out);replace Zo:=Ya (Ym Zo.out);replace Xh:=Ya (Ym Xh.out);replace Zn:=Ya (Ym Zn.out);replace HB:=Ya (Yg HB.out);have p334:0≤(Zu:Int):=od;have q334:Zu<(l2.length:Int):=od;obtain⟨ad334,e334,hx334_0,hx334_1⟩:=at_T79 HR2.out Zu p334 q334;have hw334_1:=hx334_1;have hw334_0:=hx334_0;obtain rfl:Vx=ad334:=(by injection e334);replace hx334_0:=hc HB hx334_0;replace hx334_1:=hc HB hx334_1;replace p334:=eq_true p334;replace q334:=eq_true q334;refine start_ (n:=10) (S:=fun w'=>w'.cell? ⟨Wc,0,none⟩=some (.slice Ao44 y331.length co44)∧w'.cell? ⟨Wc,1,none⟩=some (.slice Ao39 Xo.length co39)∧w'.cell? (Vx.add ((Zu).toNat * 2))=some (.int .i64 ((rd_T79 l2 Zu).f0))∧w'.cell? ⟨(Vx.add ((Zu).toNat * 2)).block,(Vx.add ((Zu).toNat * 2)).off+1,none⟩=some (.bool ((rd_T79 l2 Zu).f1))) (ds:=[9]) #[false,false,false,false,false,false,false,false,false,false] (by kernel_rfl) rfl rfl ⟨(Yc Zn.out 0).trans rfl,(Yc Zn.out 1).trans rfl,((HB.out.cell (Yb w _ hw334_0)).trans hw334_0),((HB.out.cell (Yb w _ hw334_1)).trans hw334_1)⟩ (fun hHeld=> ?_);refine with_tabW ebbtideref08_sought.tab12 ebbtideref08_sought.bits12 (fun HT_ HW_=> ?_);generalize w46.drew=w47 at HO_317001 HO333 Zo Xh Zn HB hx334_0 hx334_1 hHeld ⊢;refine pu 0 69 (bm 10 1) ?_;refine pu 2 71 (bm 10 5) ?_;refine pu 3 72 (bm 10 13) ?_;refine pu 4 73 (bm 10 29) ?_;refine ta 1 70 (bm 10 31) hHeld ?_;refine ta 5 74 (bm 10 63) hHeld ?_;refine on 6 (some 75) (bm 10 127) fun K hK=> ?_
     refine value_ (w1:= ?_) (v:= ?_) (by rfl) rfl ?_ ?_
     rotate_left 2
     ·go_simp
      constructor
      ·rfl
      ·rfl
     refine hK.out _ _ ⟨(Yc (Yj Zn.out _) 0).trans rfl,(Yc (Yj Zn.out _) 1).trans rfl,(World.cell?_alloc_lt _ _ _ (Yb _ _ ((hc HB hw334_0)))).trans ((hc HB hw334_0)),(World.cell?_alloc_lt _ _ _ (Yb _ _ ((hc HB hw334_1)))).trans ((hc HB hw334_1))⟩ (fun hHeld=> ?_);clear hK K;refine nm ?_;refine on 7 (some 76) (bm 10 255) fun K hK=> ?_
     refine Kd.R_append_step k79 (w0:=w) w.heap.size (by rfl) (.tmp 70) (.tmp 75) 67 79 (.agg #[(.int .i64 0),(.bool false)]) 16 rfl Try.underlying67 info79 rfl (by decide) (by omega) (.slice Ao39 Xo.length co39) Xo (⟨(rd_T79 l2 Zu).f0,(rd_T79 l2 Zu).f1⟩:S79) [.int .i64 ((rd_T79 l2 Zu).f0), .bool ((rd_T79 l2 Zu).f1)] (fun _=>True) (fun _=>False) rfl rfl ?aP (fun _ hk=>hk.elim) ?aF ?aO ?aB ?aS ?aL ?_
     (case aP=>exact k79_mkM _ _ _ (⟨(rd_T79 l2 Zu).f0,(rd_T79 l2 Zu).f1⟩:S79))
     (case aB=>exact HB.out)
     (case aF=>exact(fun _ _=>trivial))
     (case aO=>exact HO_317001.out)
     (case aS=>exact(Yi HB.out))
     (case aL=>have:=LMc34.out;omega)
     intro v336 w48 ho hb hg hat
     rw[← Ny335.out] at ho;replace Zo:=Ya (blk_grown Zo.out hg (Kd.R_ne HO_317001.out Zo.out (by decide)));replace Xh:=Ya (blk_grown Xh.out hg (Kd.R_ne HO_317001.out Xh.out (by decide)));replace Zn:=Ya (blk_grown Zn.out hg (Kd.R_ne HO_317001.out Zn.out (by decide)));replace HO333:=Ya (Kd.R_over' HO333.out (Kd.R_typed HO_317001.out) (by decide) hg);replace HB:=Ya (hb);have HO337:=Ya (ho);clear HO_317001;clear ho hb hg hat
     obtain⟨Ao49,co49,eo49⟩:=Kd.R_slice HO337.out
     (first|subst eo49|(injection eo49 with f1_ f2_ f3_;have f4_:=f1_.symm;have f5_:=f3_.symm;clear f1_ f2_ f3_;subst f4_;subst f5_))
     refine hK.out _ _ ⟨bc Zn 0,bc Zn 1,(hc HB hw334_0),(hc HB hw334_1)⟩ (fun hHeld=> ?_);clear hK K;refine nm ?_;refine pu 8 77 (bm 10 511) ?_;refine last_ (i:=9) (N:=none) #[true,true,true,true,true,true,true,true,true,true] rfl rfl (one_of HT_.out (by kernel_rfl)) (by decide) (fun K hK=> ?_);have hs50:w48.cell? ⟨Wc,1,none⟩=some (.slice Ao39 Xo.length co39):=bc Zn 1;have hfs50:=Yf Zn.out 1;have hns50_0:=Jf.out;have hns50_1:=Jg.out;have hms50_0:=NB316_314.out;have hms50_1:=NB316_315.out;refine skip_ (w1:= ?_) (by rfl) rfl ?_ ?_
     rotate_left
     ·go_simp
      rfl
     refine hK.out _ _ ?_;clear hK K;refine done_ (done_of HT_.out (by kernel_rfl)) ?_;try go_wp2
     go_roundg k2
     case measure=>have:=HK1.out;have:=HK2.out;omega
     case rel=>exact⟨(wrap64 (Zu+1)),(y331),(y335),(.slice Ao44 y331.length co44),(.slice Ao49 y335.length co49),(by first|rfl|(simp;done)|(simp[*];done)),H',⟨by have:=HK1.out;have:=HK2.out;omega⟩,⟨by(with_reducible repeat(first|apply Yr|apply Yq|apply Yp));exact Kd.R_mono (Kd.R_far (p:=⟨Wc,1,none⟩) (Kd.R_types HO333.out Zn.out (by decide)) (fun _ hk=>hk.2) (.slice Ao49 y335.length co49)) (fun _ hk=>trivial)⟩,⟨by(with_reducible repeat(first|apply Yr|apply Yq|apply Yp));exact Kd.R_mono (Kd.R_far (p:=⟨Wc,1,none⟩) (Kd.R_types HO337.out Zn.out (by decide)) (fun _ hk=>hk.2) (.slice Ao49 y335.length co49)) (fun _ hk=>trivial)⟩,⟨by(with_reducible repeat(first|refine Yl ?_ _|refine Ym ?_|refine Yj ?_ _));refine blk_far ?_ Jf.out _;(with_reducible repeat(first|refine Yl ?_ _|refine Ym ?_|refine Yj ?_ _));exact Zo.out⟩,⟨by(with_reducible repeat(first|refine Yl ?_ _|refine Ym ?_|refine Yj ?_ _));refine blk_far ?_ Jg.out _;(with_reducible repeat(first|refine Yl ?_ _|refine Ym ?_|refine Yj ?_ _));exact Xh.out⟩,⟨by(with_reducible repeat(first|refine Yl ?_ _|refine Ym ?_|refine Yj ?_ _));refine YA (cs:= #[.slice Ao44 y331.length co44, .slice Ao39 Xo.length co39]) ?_ 1 _ rfl;(with_reducible repeat(first|refine Yl ?_ _|refine Ym ?_|refine Yj ?_ _));exact Zn.out⟩,⟨bl⟩⟩
end P
namespace H
open P Q
def wayP (l:List S50) (F:List Int) (n s t:Nat):List S79:=if t∈nodes (bfP l F n s) then wayL (frP l) (bfP l F n s) s t else []
def endsErr (n:Int) (l:List S50) (s t:Int):Int:=if netErr n l=0 then(if 0≤s∧s<n∧0≤t∧t<n∧s≠t then 0 else 70) else netErr n l
end H
namespace H
open P Q
def esL (l:List S50) (L:List S79) (u:Nat):List S79:=L.filter fun e=>decide (stFrom l e=(u:Int))
def bfL (l:List S50) (L:List S79) (n s:Nat):List (Fd S79):=bfsN (toP l) (esL l L) z79 n s
theorem es_same (l:List S50) (F:List Int) (u:Nat) (k:Nat):(stL l u k).filter (fun e=>decide (0<stRoom l F e))=(stepsR l F k).filter (fun e=>decide (stFrom l e=(u:Int))):=by
 induction k with
 |zero=>rfl
 |succ k ih=>
  unfold stL stepsR;rw[List.filter_append,List.filter_append,List.filter_append,List.filter_append,ih];congr 1
  ·congr 1
   have e1:stRoom l F ⟨(k:Int),false⟩=(rd_T50 l k).f2 - F.getD k 0:=by unfold stRoom;simp
   have e2:stFrom l ⟨(k:Int),false⟩=eFrom (rd_T50 l k):=rfl;by_cases h1:eFrom (rd_T50 l k)=(u:Int)<;>by_cases h2:F.getD k 0<(rd_T50 l k).f2
   ·rw[Yx h1,Yx h2,List.filter_cons,List.filter_cons,Yx (by rw[decide_eq_true_eq,e1];omega),Yx (by rw[decide_eq_true_eq,e2];exact h1)];rfl
   ·rw[Yx h1,Yy h2,List.filter_cons,Yy (by rw[decide_eq_true_eq,e1];omega)];rfl
   ·rw[Yy h1,Yx h2,List.filter_cons,Yy (by rw[decide_eq_true_eq,e2];exact h1)];rfl
   ·rw[Yy h1,Yy h2];rfl
  ·have e1:stRoom l F ⟨(k:Int),true⟩=F.getD k 0:=by unfold stRoom;simp
   have e2:stFrom l ⟨(k:Int),true⟩=eTo (rd_T50 l k):=rfl;by_cases h1:eTo (rd_T50 l k)=(u:Int)<;>by_cases h2:0<F.getD k 0
   ·rw[Yx h1,Yx h2,List.filter_cons,List.filter_cons,Yx (by rw[decide_eq_true_eq,e1];omega),Yx (by rw[decide_eq_true_eq,e2];exact h1)];rfl
   ·rw[Yx h1,Yy h2,List.filter_cons,Yy (by rw[decide_eq_true_eq,e1];omega)];rfl
   ·rw[Yy h1,Yx h2,List.filter_cons,Yy (by rw[decide_eq_true_eq,e2];exact h1)];rfl
   ·rw[Yy h1,Yy h2];rfl
theorem bf_same {l:List S50} {F:List Int} {n:Nat} (hr:Right l F n) (s:Nat):bfL l (stepsR l F F.length) n s=bfP l F n s:=by
 unfold bfL bfP;have:esL l (stepsR l F F.length)=esP l F:=by
  funext u;unfold esL esP;rw[hr.len];exact(es_same l F u l.length).symm
 rw[this]
def hasI (X:List Int) (a:Int) (i:Nat):Int:=if a∈X.drop i then((i+(X.drop i).idxOf a:Nat):Int) else -1
theorem has_l0 (X:List Int) (Y:List S79) (a:Int) (hl:X.length≤1000000) (d:Nat): ∀ i:Nat,i+d=X.length→Ev (fun k=>ebbtideref08_found_has.l0 k a (i:Int) X Y) (hasI X a i):=by
 induction d with
 |zero=>
  intro i hi;refine Ev.succ ?_;simp only[ebbtideref08_found_has.l0];refine Ev.neg (by omega) ?_;exact Ev.done (by unfold hasI;rw[List.drop_of_length_le (by omega),Yy (by simp)])
 |succ d ih=>
  intro i hi;refine Ev.succ ?_;simp only[ebbtideref08_found_has.l0];refine Ev.pos (by omega) ?_;refine Ev.pos (by omega) ?_;have hd:=drop_getD X i 0 (by omega);rw[rd_nat];refine Ev.ite (fun g=> ?_) (fun g=> ?_)
  ·exact Ev.done (by unfold hasI;rw[hd,g,Yx List.mem_cons_self,List.idxOf_cons_self];rfl)
  ·rw[wrap_succ (n:=X.length) (by omega) (by omega)]
   refine Ev.eq (ih (i+1) (by omega)) ?_;unfold hasI;rw[hd];by_cases hm:a∈X.drop (i+1)
   ·have e3:(X.getD i 0::X.drop (i+1)).idxOf a=(X.drop (i+1)).idxOf a+1:=by
     rw[List.idxOf_cons];have:(X.getD i 0 == a)=false:=beq_eq_false_iff_ne.2 g;rw[this];rfl
    rw[Yx hm,Yx (List.mem_cons_of_mem _ hm),e3];omega
   ·rw[Yy hm,Yy (by intro h;rcases List.mem_cons.1 h with h|h;exact g h.symm;exact hm h)]
theorem has_ev (X:List Int) (Y:List S79) (a:Int) (hl:X.length≤1000000):Ev (fun k=>ebbtideref08_found_has.f k X Y a) (hasI X a 0):=by
 unfold ebbtideref08_found_has.f;exact has_l0 X Y a hl X.length 0 (by omega)
def nX (st:List (Fd S79)):List Int:=(nodes st).map fun v:Nat=>(v:Int)
def bY (st:List (Fd S79)):List S79:=st.map Fd.by_
theorem nX_len (st:List (Fd S79)):(nX st).length=st.length:=by simp[nX,nodes]
theorem bY_len (st:List (Fd S79)):(bY st).length=st.length:=by simp[bY]
theorem nX_snoc (st:List (Fd S79)) (x:Fd S79):nX (st ++ [x])=nX st ++ [(x.v:Int)]:=by simp[nX,nodes]
theorem bY_snoc (st:List (Fd S79)) (x:Fd S79):bY (st ++ [x])=bY st ++ [x.by_]:=by simp[bY]
theorem mem_nX {st:List (Fd S79)} {v:Nat} :(v:Int)∈nX st↔v∈nodes st:=by
 unfold nX;rw[List.mem_map];constructor
 ·rintro⟨u,hu,e⟩
  have:u=v:=by omega
  rw[← this];exact hu
 ·intro h;exact⟨v,h,rfl⟩
theorem hasI_neg {st:List (Fd S79)} {v:Nat} :hasI (nX st) (v:Int) 0<0↔v ∉ nodes st:=by
 unfold hasI;rw[List.drop_zero];by_cases h:v∈nodes st
 ·rw[Yx (mem_nX.2 h)]
  constructor
  ·intro h2;omega
  ·intro h2;exact absurd h h2
 ·rw[Yy (fun h2=>h (mem_nX.1 h2))]
  simp[h]
theorem nX_get {st:List (Fd S79)} {i:Nat} {x:Fd S79} (h:st[i]? =some x):rd (nX st) (i:Int)=(x.v:Int):=by
 rw[rd_nat,List.getD_eq_getElem?_getD];unfold nX nodes;rw[List.getElem?_map,List.getElem?_map,h];rfl
structure StepsOk (l:List S50) (n:Nat) (L:List S79):Prop where
 ends:ends l n
 arcs:l.length≤200
 of: ∀ s,s∈L→StepOf l s
 len:L.length≤400
section
variable {l:List S50} {n:Nat} {L:List S79}
theorem StepsOk.to_in (h:StepsOk l n L) {s:S79} (hs:s∈L):0≤stTo l s∧stTo l s<n:=by
 obtain⟨i,h1,h2⟩:=h.of s hs;have:=h.ends i h1;unfold stTo;rw[h2];split
 ·exact this.1
 ·exact this.2
theorem esL_to (h:StepsOk l n L): ∀ (u:Nat) (e:S79),e∈esL l L u→toP l e<n:=by
 intro u e he;have:=h.to_in (List.mem_filter.1 he).1;unfold toP;omega
theorem esL_fr: ∀ (u:Nat) (e:S79),e∈esL l L u→frP l e=u:=by
 intro u e he;have h:=Yu (List.mem_filter.1 he).2;unfold frP;rw[h,Int.toNat_natCast]
theorem rfrom_ok (h:StepsOk l n L) {s:S79} (hs:s∈L) (a:Int) (b:Bool):ebbtideref07_From.f a b l s.f0 s.f1=some (stFrom l s):=by
 obtain⟨i,h1,h2⟩:=h.of s hs;unfold ebbtideref07_From.f stFrom eFrom eTo;rw[h2];cases s.f1<;>simp[h1]
theorem rto_ok (h:StepsOk l n L) {s:S79} (hs:s∈L) (a:Int) (b:Bool):ebbtideref07_To.f a b l s.f0 s.f1=some (stTo l s):=by
 obtain⟨i,h1,h2⟩:=h.of s hs;unfold ebbtideref07_To.f stTo eFrom eTo;rw[h2];cases s.f1<;>simp[h1]
theorem sought_l1 (h:StepsOk l n L) (hn:n≤50) (a:Int) (b:Bool) {s i:Nat} (hs:s<n) {x:Fd S79} {R:List Int × List S79} (d:Nat): ∀ (j:Nat) (stj:List (Fd S79)),j+d=L.length→Fds (frP l) (toP l) (esL l L) s stj→stj[i]? =some x→(∀ y,y∈stj→y.lv≤x.lv+1)→
  Ev (fun k=>ebbtideref08_sought.l0 k L ((i+1:Nat):Int) a b l (nX (((L.drop j).filter fun e=>decide (stFrom l e=(x.v:Int))).foldl (vis (toP l) x.lv) stj)) (bY (((L.drop j).filter fun e=>decide (stFrom l e=(x.v:Int))).foldl (vis (toP l) x.lv) stj))) R→
  Ev (fun k=>ebbtideref08_sought.l1 k L (i:Int) (j:Int) a b l (nX stj) (bY stj)) R:=by
 induction d with
 |zero=>
  intro j stj hj hf hx hm he;have hil:=(List.getElem?_eq_some_iff.1 hx).1;have hln:=fds_len hf (esL_to h) hs;rw[List.drop_of_length_le (by omega)] at he;refine Ev.succ ?_;simp only[ebbtideref08_sought.l1];refine Ev.neg (by omega) ?_;rw[wrap_succ (n:=51) (by omega) (by omega)];exact he
 |succ d ih=>
  intro j stj hj hf hx hm he;have hil:=(List.getElem?_eq_some_iff.1 hx).1;have hln:=fds_len hf (esL_to h) hs;have hll:=h.len;refine Ev.succ ?_;simp only[ebbtideref08_sought.l1];refine Ev.pos (by omega) ?_;refine Ev.pos (by omega) ?_;have hd:=drop_getD L j z79 (by omega);obtain⟨e,hee⟩: ∃ e,e=L.getD j z79:=⟨_,rfl⟩;have hr:rd_T79 L (j:Int)=e:=by unfold rd_T79;rw[Int.toNat_natCast,hee]
  have hem:e∈L:=by rw[hee];exact getD_mem (by omega)
  rw[hr];rw[hd, ← hee,List.filter_cons] at he;refine Ev.call (rfrom_ok h hem a b) ?_;refine Ev.pos (by omega) ?_;refine Ev.pos (by rw[nX_len];omega) ?_;rw[nX_get hx,wrap_succ (n:=L.length) (by omega) (by omega)];refine Ev.ite (fun g=> ?_) (fun g=> ?_)
  ·rw[Yx (by simpa using g),List.foldl_cons] at he
   have hto:=h.to_in hem;have htp:stTo l e=((toP l e:Nat):Int):=by unfold toP;omega
   refine Ev.call (rto_ok h hem a b) ?_;rw[htp];refine Ev.bind (has_ev (nX stj) (bY stj) _ (by rw[nX_len];omega)) ?_;refine Ev.ite (fun g2=> ?_) (fun g2=> ?_)
   ·have hnm:=hasI_neg.1 g2
    have hv:vis (toP l) x.lv stj e=stj ++ [⟨toP l e,e,x.lv+1⟩]:=by unfold vis;rw[Yy hnm]
    obtain⟨f1,f2⟩:=hf.vis hx hm (List.mem_filter.2 ⟨hem,by simpa using g⟩);rw[hv] at f1 f2 he;refine Ev.call (rto_ok h hem a b) ?_;rw[htp];refine Ev.pos (by rw[nX_len];omega) ?_;refine Ev.pos (by rw[bY_len];omega) ?_;have h2:=ih (j+1) (stj ++ [⟨toP l e,e,x.lv+1⟩]) (by omega) f1 (by rw[List.getElem?_append_left hil];exact hx) f2 he;rw[nX_snoc,bY_snoc] at h2;exact h2
   ·have hmm:toP l e∈nodes stj:=Classical.byContradiction fun hc=>g2 (hasI_neg.2 hc)
    have hv:vis (toP l) x.lv stj e=stj:=by unfold vis;rw[Yx hmm]
    rw[hv] at he;exact ih (j+1) stj (by omega) hf hx hm he
  ·rw[Yy (by simpa using g)] at he
   exact ih (j+1) stj (by omega) hf hx hm he
theorem sought_l0 (h:StepsOk l n L) (hn:n≤50) (a:Int) (b:Bool) {s:Nat} (hs:s<n) (d:Nat): ∀ (i:Nat) (st:List (Fd S79)),Upto (frP l) (toP l) (esL l L) s i st→i+d=n→i≤st.length→
  Ev (fun k=>ebbtideref08_sought.l0 k L (i:Int) a b l (nX st) (bY st)) (nX (bfs (toP l) (esL l L) d i st),bY (bfs (toP l) (esL l L) d i st)):=by
 induction d with
 |zero=>
  intro i st hu hi hil;have hln:=fds_len hu.fds (esL_to h) hs;refine Ev.succ ?_;simp only[ebbtideref08_sought.l0];refine Ev.neg (by rw[nX_len];omega) ?_;exact Ev.now _
 |succ d ih=>
  intro i st hu hi hil;unfold bfs;cases hx:st[i]? with
  |none=>
   have:=List.getElem?_eq_none_iff.1 hx;refine Ev.succ ?_;simp only[ebbtideref08_sought.l0];refine Ev.neg (by rw[nX_len];omega) ?_;exact Ev.now _
  |some x=>
   have hlt:=(List.getElem?_eq_some_iff.1 hx).1;refine Ev.succ ?_;simp only[ebbtideref08_sought.l0];refine Ev.pos (by rw[nX_len];omega) ?_;refine sought_l1 h hn a b hs L.length 0 st (by omega) hu.fds hx (hu.most x hx) ?_;rw[List.drop_zero];have hnx:=hu.next hx
   have hpl:i+1≤(proc (toP l) (esL l L) st x).length:=by
    obtain⟨r,hr⟩:=fold_pre (toP l) x.lv (esL l L x.v) st;unfold proc;rw[hr,List.length_append];omega
   exact ih (i+1) (proc (toP l) (esL l L) st x) hnx (by omega) hpl
theorem sought_ev (h:StepsOk l n L) (hn:n≤50) (b:Bool) {s:Nat} (hs:s<n):Ev (fun k=>ebbtideref08_sought.f k (n:Int) b l (s:Int) L) (nX (bfL l L n s),bY (bfL l L n s)):=by
 unfold ebbtideref08_sought.f;refine Ev.pos (by simp) ?_;refine Ev.pos (by simp) ?_;exact sought_l0 h hn (n:Int) b hs n 0 [⟨s,z79,0⟩] (upto_start _ _ _ _ _) (by omega) (Nat.zero_le _)
end
end H
namespace H
open P Q
structure Seen (l:List S50) (F:List Int) (n s:Nat) (t:Int) (st:List (Fd S79)):Prop where
 pre: ∃ r,bfP l F n s=st ++ r
 fds:Fds (frP l) (toP l) (esP l F) s st
 hit:st=bfP l F n s∨ ∃ tn:Nat,t=tn∧tn∈nodes st
structure Lp (l:List S50) (F:List Int) (n s:Nat) (t:Int) (st:List (Fd S79)) (i:Nat):Prop where
 upto:Upto (frP l) (toP l) (esP l F) s i st
 rest:bfs (toP l) (esP l F) (n - i) i st=bfP l F n s
 ile:i≤st.length
 nott: ∀ tn:Nat,t=tn→tn ∉ nodes st
structure Li (l:List S50) (F:List Int) (n s:Nat) (t:Int) (x:Fd S79) (X stj:List (Fd S79)) (i j:Nat):Prop where
 fds:Fds (frP l) (toP l) (esP l F) s stj
 mst: ∀ y,y∈stj→y.lv≤x.lv+1
 at_:stj[i]? =some x
 tail:(((stL l x.v l.length).drop j).filter fun e=>decide (0<stRoom l F e)).foldl (vis (toP l) x.lv) stj=X
 nott: ∀ tn:Nat,t=tn→tn ∉ nodes stj
section
variable {l:List S50} {F:List Int} {n s:Nat} {t:Int}
theorem lp_start (hs:s<n) (ht:t≠s):Lp l F n s t [⟨s,z79,0⟩] 0:=
 ⟨upto_start _ _ _ _ _,rfl,Nat.zero_le _,fun tn e hm=>by simp[nodes] at hm;omega⟩
theorem Lp.seen {st:List (Fd S79)} {i:Nat} (h:Lp l F n s t st i) (hi:i=st.length):Seen l F n s t st:=by
 have e:st=bfP l F n s:=by
  rw[← h.rest];cases n - i with
  |zero=>rfl
  |succ k=>unfold bfs;rw[List.getElem?_eq_none (by omega)]
 exact⟨⟨[],by rw[List.append_nil, ← e]⟩,h.upto.fds, .inl e⟩
theorem Lp.len (hr:Right l F n) (hs:s<n) {st:List (Fd S79)} {i:Nat} (h:Lp l F n s t st i):st.length≤n:=fds_len h.upto.fds (esP_to hr) hs
theorem Lp.inner {st:List (Fd S79)} {i:Nat} (h:Lp l F n s t st i) {x:Fd S79} (hx:st[i]? =some x):Li l F n s t x (proc (toP l) (esP l F) st x) st i 0:=
 ⟨h.upto.fds,h.upto.most x hx,hx,by rw[List.drop_zero];rfl,h.nott⟩
theorem Li.next (hr:Right l F n) (hs:s<n) {st:List (Fd S79)} {i:Nat} (h:Lp l F n s t st i) {x:Fd S79} (hx:st[i]? =some x) {stj:List (Fd S79)} (hj:Li l F n s t x (proc (toP l) (esP l F) st x) stj i (stL l x.v l.length).length):Lp l F n s t stj (i+1):=by
 have e:stj=proc (toP l) (esP l F) st x:=by
  have:=hj.tail;rw[List.drop_of_length_le (Nat.le_refl _)] at this;exact this
 have hil:=(List.getElem?_eq_some_iff.1 hx).1;have hl:=h.len hr hs;refine⟨by rw[e];exact h.upto.next hx,?_,?_,hj.nott⟩
 ·have hrest:=h.rest
  rw[show n - i=(n - (i+1))+1 by omega] at hrest;rw[e, ← hrest];rw[bfs,hx]
 ·have:=(List.getElem?_eq_some_iff.1 hj.at_).1
  omega
theorem row_drop {x:Fd S79} {j:Nat} {e:S79} (he:(stL l x.v l.length)[j]? =some e):(stL l x.v l.length).drop j=e::(stL l x.v l.length).drop (j+1):=by
 obtain⟨hlt,h⟩:=List.getElem?_eq_some_iff.1 he;rw[List.drop_eq_getElem_cons hlt,h]
theorem Li.skip {x:Fd S79} {X stj:List (Fd S79)} {i j:Nat} (h:Li l F n s t x X stj i j) {e:S79} (he:(stL l x.v l.length)[j]? =some e) (h0: ¬ 0<stRoom l F e∨toP l e∈nodes stj):Li l F n s t x X stj i (j+1):=by
 refine⟨h.fds,h.mst,h.at_,?_,h.nott⟩;have ht:=h.tail;rw[row_drop he,List.filter_cons] at ht;by_cases hr:0<stRoom l F e
 ·rw[Yx (by simpa using hr),List.foldl_cons] at ht
  have hv:vis (toP l) x.lv stj e=stj:=by unfold vis;rw[Yx (h0.resolve_left (fun h=>h hr))]
  rw[hv] at ht;exact ht
 ·rw[Yy (by simpa using hr)] at ht
  exact ht
theorem Li.add {x:Fd S79} {X stj:List (Fd S79)} {i j:Nat} (h:Li l F n s t x X stj i j) {e:S79} (he:(stL l x.v l.length)[j]? =some e) (hr:0<stRoom l F e) (hn:toP l e ∉ nodes stj):
  Fds (frP l) (toP l) (esP l F) s (stj ++ [⟨toP l e,e,x.lv+1⟩])∧(∀ y,y∈stj ++ [⟨toP l e,e,x.lv+1⟩]→y.lv≤x.lv+1)∧(((stL l x.v l.length).drop (j+1)).filter fun e=>decide (0<stRoom l F e)).foldl (vis (toP l) x.lv) (stj ++ [⟨toP l e,e,x.lv+1⟩])=X∧(stj ++ [⟨toP l e,e,x.lv+1⟩])[i]? =some x:=by
 have hv:vis (toP l) x.lv stj e=stj ++ [⟨toP l e,e,x.lv+1⟩]:=by unfold vis;rw[Yy hn]
 obtain⟨h1,h2⟩:=h.fds.vis h.at_ h.mst (mem_esP.2 ⟨List.mem_of_getElem? he,hr⟩);rw[hv] at h1 h2;have ht:=h.tail;rw[row_drop he,List.filter_cons,Yx (by simpa using hr),List.foldl_cons,hv] at ht;exact⟨h1,h2,ht,by rw[List.getElem?_append_left (List.getElem?_eq_some_iff.1 h.at_).1];exact h.at_⟩
theorem Li.put {x:Fd S79} {X stj:List (Fd S79)} {i j:Nat} (h:Li l F n s t x X stj i j) {e:S79} (he:(stL l x.v l.length)[j]? =some e) (hr:0<stRoom l F e) (hn:toP l e ∉ nodes stj) (ht:t≠toP l e):Li l F n s t x X (stj ++ [⟨toP l e,e,x.lv+1⟩]) i (j+1):=by
 obtain⟨h1,h2,h3,h4⟩:=h.add he hr hn;refine⟨h1,h2,h4,h3,fun tn etn hm=> ?_⟩;rw[nodes_app] at hm;rcases List.mem_append.1 hm with hm|hm
 ·exact h.nott tn etn hm
 ·simp[nodes] at hm
  exact ht (by rw[etn,hm])
theorem Li.found {st:List (Fd S79)} {i:Nat} (hp:Lp l F n s t st i) {x:Fd S79} (hx:st[i]? =some x) (hi:i<n) {stj:List (Fd S79)} {j:Nat} (h:Li l F n s t x (proc (toP l) (esP l F) st x) stj i j) {e:S79} (he:(stL l x.v l.length)[j]? =some e) (hr:0<stRoom l F e) (hn:toP l e ∉ nodes stj) (ht:t=toP l e):
  Seen l F n s t (stj ++ [⟨toP l e,e,x.lv+1⟩]):=by
 obtain⟨h1,h2,h3,h4⟩:=h.add he hr hn;refine⟨?_,h1, .inr ⟨toP l e,ht,by rw[nodes_app];exact List.mem_append_right _ (by simp[nodes])⟩⟩;obtain⟨r,hr1⟩:=fold_pre (toP l) x.lv (((stL l x.v l.length).drop (j+1)).filter fun e=>decide (0<stRoom l F e)) (stj ++ [⟨toP l e,e,x.lv+1⟩]);obtain⟨q,hq⟩:=bfs_pre (toP l) (esP l F) (n - (i+1)) (i+1) (proc (toP l) (esP l F) st x);have hrest:=hp.rest;rw[show n - i=(n - (i+1))+1 by omega,bfs,hx] at hrest;refine⟨r ++ q,?_⟩;rw[← hrest];show bfs (toP l) (esP l F) (n - (i+1)) (i+1) (proc (toP l) (esP l F) st x)=_;rw[hq, ← h3,hr1,List.append_assoc]
def qOf (st:List (Fd S79)) (i:Nat):List Int:=((nodes st).drop i).map fun v:Nat=>(v:Int)
theorem qOf_cons {st:List (Fd S79)} {i:Nat} {x:Fd S79} (hx:st[i]? =some x):qOf st i=(x.v:Int)::qOf st (i+1):=by
 obtain⟨hlt,h⟩:=List.getElem?_eq_some_iff.1 hx;unfold qOf nodes;rw[List.drop_eq_getElem_cons (by simpa using hlt),List.map_cons,List.getElem_map,h]
theorem qOf_snoc {st:List (Fd S79)} {i:Nat} (hi:i≤st.length) (y:Fd S79):qOf (st ++ [y]) i=qOf st i ++ [(y.v:Int)]:=by
 unfold qOf;rw[nodes_app,List.drop_append_of_le_length (by unfold nodes;simpa using hi),List.map_append];rfl
end
end H
namespace H
open P
structure Ks (S:Nat→Prop) (w w':World):Prop where
 os:w'.os=w.os
 tape:w'.tape=w.tape
 output:w'.output=w.output
 size:w.heap.size≤w'.heap.size
 block: ∀ k,k<w.heap.size→ ¬ S k→w'.heap[k]? =w.heap[k]?
section
variable {S T:Nat→Prop} {w w1 w2:World}
theorem Ks.refl (S:Nat→Prop) (w:World):Ks S w w:=⟨rfl,rfl,rfl,Nat.le_refl _,fun _ _ _=>rfl⟩
theorem Ks.trans (h:Ks S w w1) (k:Ks T w1 w2) (hT: ∀ b,T b→b<w.heap.size→S b):Ks S w w2:=
 ⟨k.os.trans h.os,k.tape.trans h.tape,k.output.trans h.output,Nat.le_trans h.size k.size,fun b hb hs=>(k.block b (Nat.lt_of_lt_of_le hb h.size) (fun ht=>hs (hT b ht hb))).trans (h.block b hb hs)⟩
theorem Ks.of_below (h:Below w.heap.size w w1) (S:Nat→Prop):Ks S w w1:=⟨h.os,h.tape,h.output,h.size,fun b hb _=>h.block b hb⟩
theorem Ks.below (h:Ks S w w1) (hb:Below w1.heap.size w1 w2):Ks S w w2:=h.trans (Ks.of_below hb (fun _=>False)) (fun _ h=>h.elim)
theorem Ks.trans' {w0:World} (h:Ks S w w1) (hb:Below w0.heap.size w0 w):Ks S w0 w1:=(Ks.of_below hb S).trans h (fun _ h _=>h)
theorem Ks.set (h:Ks S w w1) {g:Nat} (hg:g<w.heap.size→S g) (j:Nat) (u:Value):Ks S w (w1.setCell ⟨g,j,none⟩ u):=
 ⟨h.os,h.tape,h.output,by simpa [World.setCell] using h.size,fun k hk hs=>(Below.heap_setCell w1 ⟨g,j,none⟩ u k (by rintro rfl;exact hs (hg hk))).trans (h.block k hk hs)⟩
theorem Ks.mono (h:Ks S w w1) (hT: ∀ b,S b→b<w.heap.size→T b):Ks T w w1:=⟨h.os,h.tape,h.output,h.size,fun b hb ht=>h.block b hb (fun hs=>ht (hT b hs hb))⟩
theorem Ks.toBelow {B:Nat} {w0:World} (h:Ks S w w1) (hb:Below B w0 w) (hB:B≤w.heap.size) (hS: ∀ b,S b→B≤b):Below B w0 w1:=
 hb.trans ⟨h.os,h.tape,h.output,h.size,fun k hk=>h.block k (by omega) (fun hs=>by have:=hS k hs;omega)⟩
theorem Ks.blk (h:Ks S w w1) {g:Nat} {o:Obj} (hb:w.heap[g]? =some o) (hs: ¬ S g):w1.heap[g]? =some o:=(h.block g (blk_lt hb) hs).trans hb
theorem Ks.F {α:Type} {d:Kd α} {n:Nat} {ok:Nat→Prop} {A:Option Addr} {xs:List α} (h:Ks S w w1) (hr:Kd.F d w ok A n xs) (hok: ∀ k,ok k→k<w.heap.size→ ¬ S k):Kd.F d w1 ok A n xs:=Kd.F_step hr (fun k ho hlt=>h.block k hlt (hok k ho hlt))
end
structure Qu (w:World) (g:Nat) (A:Option Addr) (R:List Int) (fr sz mo:Nat):Prop where
 hd:w.heap[g]? =some (.cells #[.slice A R.length R.length, .int .i64 (fr:Nat), .int .i64 (sz:Nat), .int .i64 (mo:Nat)] 149 (0,0))
 ring:(A=none∧R=[])∨ ∃ b,A=some ⟨b,0,none⟩∧0<R.length∧w.heap[b]? =some (.cells (nums .i64 R).toArray 3 (0,0))
 szr:sz≤R.length
 frr:fr<R.length∨fr=0∧R=[]
 szm:sz≤mo
 mo50:mo≤50
 len:R.length≤200
def quS (g:Nat) (A:Option Addr) (k:Nat):Prop:=k=g∨ ∃ a,A=some a∧k=a.block
def qL (R:List Int) (fr sz:Nat):List Int:=(List.range sz).map fun i=>R.getD ((fr+i) % R.length) 0
theorem Qu.step {w w1:World} {g:Nat} {A:Option Addr} {R:List Int} {fr sz mo:Nat} (h:Qu w g A R fr sz mo) (hb: ∀ k,k<w.heap.size→quS g A k→w1.heap[k]? =w.heap[k]?):Qu w1 g A R fr sz mo:=by
 refine⟨(hb g (blk_lt h.hd) (.inl rfl)).trans h.hd,?_,h.szr,h.frr,h.szm,h.mo50,h.len⟩;rcases h.ring with h1|⟨b,h1,h2,h3⟩
 ·exact .inl h1
 ·exact .inr ⟨b,h1,h2,(hb b (blk_lt h3) (.inr ⟨_,h1,rfl⟩)).trans h3⟩
theorem Qu.below {w w1:World} {g:Nat} {A:Option Addr} {R:List Int} {fr sz mo:Nat} (h:Qu w g A R fr sz mo) (hb:Below w.heap.size w w1):Qu w1 g A R fr sz mo:=h.step fun k hk _=>hb.block k hk
theorem Qu.ne {w:World} {g b:Nat} {R:List Int} {fr sz mo:Nat} (h:Qu w g (some ⟨b,0,none⟩) R fr sz mo):g≠b:=by
 rcases h.ring with ⟨h1,_⟩|⟨c,h1,h2,h3⟩
 ·cases h1
 ·cases h1
  exact blk_ne h.hd h3 (by decide)
theorem nums_get (R:List Int) (j:Nat) (h:j<R.length):(nums .i64 R).toArray[j]? =some (.int .i64 (R.getD j 0)):=by
 simp[nums,List.getD_eq_getElem?_getD,List.getElem?_eq_getElem h]
theorem mod_add_one (a b m:Nat):((a+1) % m+b) % m=(a+(b+1)) % m:=by
 rw[Nat.mod_add_mod];congr 1;omega
theorem qL_take (R:List Int) (fr sz:Nat) (hf:fr<R.length):qL R fr (sz+1)=R.getD fr 0::qL R ((fr+1) % R.length) sz:=by
 unfold qL;rw[List.range_succ_eq_map,List.map_cons,Nat.add_zero,Nat.mod_eq_of_lt hf,List.map_map];congr 1;apply List.map_congr_left;intro i _;show R.getD ((fr+(i+1)) % R.length) 0=R.getD (((fr+1) % R.length+i) % R.length) 0;rw[mod_add_one]
attribute [local irreducible] wpQuiet
set_option maxHeartbeats 1000000 in
set_option maxRecDepth 100000 in
theorem que_len (g:Nat) (A:Option Addr) (R:List Int) (fr sz mo:Nat) (w:World) (h:Qu w g A R fr sz mo):
  Calls Try.prog 102 #[.pointer (some ⟨g,0,none⟩)] w fun e w'=>e= .returned (.int .i64 sz)∧w'=w:=by
 have c2:w.cell? ⟨g,2,none⟩=some (.int .i64 sz):=(Yc h.hd 2).trans rfl;clear h;go_enter Try.func102,Try.ntmps102;go_wp2;go_ret;exact⟨rfl,rfl⟩
set_option maxHeartbeats 1000000 in
set_option maxRecDepth 100000 in
theorem take_core (g b m fr sz:Nat) (x:Int) (w:World) (c0:w.cell? ⟨g,0,none⟩=some (.slice (some ⟨b,0,none⟩) m m)) (c1:w.cell? ⟨g,1,none⟩=some (.int .i64 fr)) (c2:w.cell? ⟨g,2,none⟩=some (.int .i64 (sz+1:Nat)))
  (c3:w.cell? ⟨b,fr,none⟩=some (.int .i64 x)) (f1:w.frozen? ⟨g,1,none⟩=false) (f2:w.frozen? ⟨g,2,none⟩=false) (hne:g≠b) (p0:(0:Int)≤(fr:Int)) (p1:(fr:Int)<(m:Int)) (p2:(m:Int)≤200) (p4:(sz:Int)+1≤50) (p5:(0:Int)≤(sz:Int)):
  Calls Try.prog 103 #[.pointer (some ⟨g,0,none⟩)] w fun e w'=>e= .returned (.tuple #[.int .i64 x, .int .i64 0])∧w'=((w.setCell ⟨g,1,none⟩ (.int .i64 (((fr:Int)+1) % (m:Int)))).setCell ⟨g,2,none⟩ (.int .i64 sz)).drew.drew:=by
 have hu:=Try.underlying149;have p3:(0:Int)<(m:Int):=by omega
 have e1:((sz:Int)+1 == 0)=false:=beq_eq_false_iff_ne.2 (by omega);go_enter Try.func103,Try.ntmps103;go_wp2_with fail;go_region;go_wp2_with fail;go_region;go_wp2_with fail;go_ret2;exact⟨rfl,rfl⟩
theorem que_take (g b:Nat) (R:List Int) (fr sz mo:Nat) (w:World) (h:Qu w g (some ⟨b,0,none⟩) R fr (sz+1) mo):
  Calls Try.prog 103 #[.pointer (some ⟨g,0,none⟩)] w fun e w'=>e= .returned (.tuple #[.int .i64 (R.getD fr 0), .int .i64 0])∧Qu w' g (some ⟨b,0,none⟩) R ((fr+1) % R.length) sz mo∧Ks (fun k=>k=g) w w':=by
 have hfr:fr<R.length:=by
  rcases h.frr with h1|⟨_,h1⟩
  ·exact h1
  ·have:=h.szr;rw[h1] at this;simp at this
 have hl:=h.len;have hring:w.heap[b]? =some (.cells (nums .i64 R).toArray 3 (0,0)):=by
  rcases h.ring with ⟨h1,_⟩|⟨c,h1,h2,h3⟩
  ·cases h1
  ·cases h1;exact h3
 have hm:=h.szm;have h50:=h.mo50;refine(take_core g b R.length fr sz (R.getD fr 0) w ((Yc h.hd 0).trans rfl) ((Yc h.hd 1).trans rfl) ((Yc h.hd 2).trans rfl) ((Yc hring fr).trans (nums_get R fr hfr)) (Yf h.hd 1) (Yf h.hd 2) h.ne (by omega) (by omega) (by omega) (by omega) (by omega)).mono ?_;rintro e w' ⟨rfl,rfl⟩;have he:((fr:Int)+1) % (R.length:Int)=(((fr+1) % R.length:Nat):Int):=by rw[Int.natCast_emod];rfl
 rw[he];refine⟨rfl,⟨blk_set (blk_set h.hd 1 _) 2 _, .inr ⟨b,rfl,by omega,?_⟩,by have:=h.szr;omega, .inl (Nat.mod_lt _ (by omega)),by omega,h50,hl⟩,?_⟩
 ·exact blk_far (blk_far hring (p:=⟨g,1,none⟩) (Ne.symm h.ne) _) (p:=⟨g,2,none⟩) (Ne.symm h.ne) _
 ·exact(((Ks.refl (fun k=>k=g) w).set (g:=g) (fun _=>rfl) 1 _).set (g:=g) (fun _=>rfl) 2 _).below (below_drew (below_drew (Yo _ _)))
end H
namespace H
open P
def IsI (w:World) (g:Nat) (D:List Int):Prop:=w.heap[g]? =some (.cells (nums .i64 D).toArray 3 (0,0))
def stC (B:List S79):List Value:=B.flatMap fun s=>[.int .i64 s.f0, .bool s.f1]
def IsS (w:World) (g:Nat) (B:List S79):Prop:=w.heap[g]? =some (.cells (stC B).toArray 79 (0,0))
theorem stC_len (B:List S79):(stC B).length=2 * B.length:=by
 induction B with
 |nil=>rfl
 |cons s B ih=>show ([_,_] ++ stC B).length=_;rw[List.length_append,ih,List.length_cons];simp;omega
theorem stC_cons (s:S79) (B:List S79):stC (s::B)= .int .i64 s.f0:: .bool s.f1::stC B:=rfl
theorem stC_get (z:S79): ∀ (B:List S79) (u:Nat),u<B.length→(stC B)[u * 2]? =some (.int .i64 (B.getD u z).f0)∧(stC B)[u * 2+1]? =some (.bool (B.getD u z).f1)
 |[],u,h=>by simp at h
 |s::B,0,_=>⟨rfl,rfl⟩
 |s::B,u+1,h=>by
  have:=stC_get z B u (by simpa using h);rw[stC_cons,show (u+1) * 2=(u * 2+1)+1 by omega,List.getElem?_cons_succ,List.getElem?_cons_succ,List.getElem?_cons_succ,List.getElem?_cons_succ,List.getD_cons_succ];exact this
theorem stC_set: ∀ (B:List S79) (u:Nat) (s:S79),((stC B).set (u * 2) (.int .i64 s.f0)).set (u * 2+1) (.bool s.f1)=stC (B.set u s)
 |[],u,s=>rfl
 |x::B,0,s=>rfl
 |x::B,u+1,s=>by
  rw[stC_cons,show (u+1) * 2=(u * 2+1)+1 by omega,List.set_cons_succ,List.set_cons_succ,List.set_cons_succ,List.set_cons_succ,stC_set B u s];rfl
section
variable {w w1:World} {g:Nat} {D:List Int} {B:List S79}
theorem IsI.lt (h:IsI w g D):g<w.heap.size:=blk_lt h
theorem IsS.lt (h:IsS w g B):g<w.heap.size:=blk_lt h
theorem IsI.same (h:IsI w g D) (e:w1.heap[g]? =w.heap[g]?):IsI w1 g D:=e.trans h
theorem IsS.same (h:IsS w g B) (e:w1.heap[g]? =w.heap[g]?):IsS w1 g B:=e.trans h
theorem IsI.below (h:IsI w g D) (hb:Below w.heap.size w w1):IsI w1 g D:=h.same (hb.block g h.lt)
theorem IsS.below (h:IsS w g B) (hb:Below w.heap.size w w1):IsS w1 g B:=h.same (hb.block g h.lt)
theorem IsI.kept {S:Nat→Prop} (h:IsI w g D) (hk:Ks S w w1) (hs: ¬ S g):IsI w1 g D:=hk.blk h hs
theorem IsS.kept {S:Nat→Prop} (h:IsS w g B) (hk:Ks S w w1) (hs: ¬ S g):IsS w1 g B:=hk.blk h hs
theorem IsI.far (h:IsI w g D) {p:Addr} (hp:g≠p.block) (u:Value):IsI (w.setCell p u) g D:=blk_far h hp u
theorem IsS.far (h:IsS w g B) {p:Addr} (hp:g≠p.block) (u:Value):IsS (w.setCell p u) g B:=blk_far h hp u
theorem IsI.cell (h:IsI w g D) {j:Nat} (hj:j<D.length):w.cell? ⟨g,j,none⟩=some (.int .i64 (D.getD j 0)):=(Yc h j).trans (nums_get D j hj)
theorem IsI.free (h:IsI w g D) (j:Nat):w.frozen? ⟨g,j,none⟩=false:=Yf h j
theorem IsS.free (h:IsS w g B) (j:Nat):w.frozen? ⟨g,j,none⟩=false:=Yf h j
theorem IsS.cell (h:IsS w g B) (z:S79) {j:Nat} (hj:j<B.length):w.cell? ⟨g,j * 2,none⟩=some (.int .i64 (B.getD j z).f0)∧w.cell? ⟨g,j * 2+1,none⟩=some (.bool (B.getD j z).f1):=by
 obtain⟨h1,h2⟩:=stC_get z B j hj;exact⟨(Yc h _).trans (by simpa using h1),(Yc h _).trans (by simpa using h2)⟩
theorem IsI.put (h:IsI w g D) (j:Nat) (x:Int):IsI (w.setCell ⟨g,j,none⟩ (.int .i64 x)) g (D.set j x):=by
 refine(blk_set h j _).trans ?_;simp[nums,List.map_set]
theorem IsS.put (h:IsS w g B) (j:Nat) (s:S79):IsS ((w.setCell ⟨g,j * 2,none⟩ (.int .i64 s.f0)).setCell ⟨g,j * 2+1,none⟩ (.bool s.f1)) g (B.set j s):=by
 refine(blk_set (blk_set h (j * 2) _) (j * 2+1) _).trans ?_;rw[← stC_set];simp
theorem IsI.R (h:IsI w g D) (hl:D.length≤9223372036854775807) {base:Nat} (hb:base≤g) {ok:Nat→Prop} (hok:ok g):Kd.R (Kd.int .i64) 3 w base ok (.slice (some ⟨g,0,none⟩) D.length D.length) D:=by
 refine Kd.R_of_own (enc:=Value.int .i64) ?_ (fun k hk=> ?_)
 ·refine⟨by simp[encs], .inr ⟨g,D.length,_,rfl,hb,h,Nat.le_refl _,by simp only[maxLen];omega,by simp[nums],?_⟩⟩
  simp only[nums,encs,Nat.mul_one];exact List.take_of_length_le (by simp)
 ·have:g=k:=by simpa [Value.ownBlock] using hk
  subst this;exact hok
theorem IsS.R (h:IsS w g B) (hl:B.length≤9223372036854775807) {base:Nat} (hb:base≤g) {ok:Nat→Prop} (hok:ok g):Kd.R k79 79 w base ok (.slice (some ⟨g,0,none⟩) B.length B.length) B:=by
 refine⟨fun k hk=> ?_,stC B,⟨?_, .inr ⟨g,B.length,_,rfl,hb,h,Nat.le_refl _,by simp only[maxLen];omega,?_,?_⟩⟩,?_,fun j p hj=> ?_⟩
 ·have:g=k:=by simpa [Value.ownBlock] using hk
  subst this;exact hok
 ·rw[stC_len];show 2 * B.length=B.length * 2;omega
 ·show (stC B).toArray.size=B.length * 2
  rw[List.size_toArray,stC_len];omega
 ·show (stC B).toArray.toList.take (B.length * 2)=stC B
  rw[List.take_of_length_le (by simp[stC_len];omega)]
 ·rw[stC_len];show 2 * B.length=B.length * 2;omega
 ·obtain⟨hlt,hp⟩:=List.getElem?_eq_some_iff.1 hj
  obtain⟨h1,h2⟩:=stC_get p B j hlt;have hg:B.getD j p=p:=by rw[List.getD_eq_getElem?_getD,hj];rfl
  rw[hg] at h1 h2;have e:((stC B).drop (j * 2)).take 2=[.int .i64 p.f0, .bool p.f1]:=by
   apply List.ext_getElem?;intro m;rw[List.getElem?_take,List.getElem?_drop]
   match m with
   |0=>rw[Yx (by omega),Nat.add_zero,h1];rfl
   |1=>rw[Yx (by omega),h2];rfl
   |m+2=>rw[Yy (by omega)];rfl
  show Kd.M k79 w base _ p (((stC B).drop (j * 2)).take 2);rw[e];exact k79_mkM _ _ _ p
end
end H
namespace P
attribute [local go_sem] max2_int min2_int max_two min_two max_three min_three max_four min_four
def pile_room.f (a0:Int):Option (Bool):=if a0≥0 then(some (decide (a0≤65536))) else(some false)
set_option maxHeartbeats 8000000 in
set_option maxRecDepth 100000 in
theorem pile_room.calls (a0:Int) (r:Bool) (w:World) (h:pile_room.f a0=some r):
  Calls Try.prog 107 #[.int .i64 a0] w fun e w'=>e= .returned (.bool r)∧Drawn0 w w':=by
 have H:=h;unfold pile_room.f at H;clear h;by_cases c2:a0≥0
 rotate_left
 ·rw[Yy c2] at H
  have c2b0:decide (0≤a0)=false:=Yw c2;clear c2;obtain rfl:=Option.some.inj H;go_enter Try.func107,Try.ntmps107;go_wp2;go_ret;exact⟨by first|rfl|(simp;done)|(simp[*];done),by repeat(first|exact Drawn0.refl _|apply Drawn0.step)⟩
 rw[Yx c2] at H;have c2b0:decide (0≤a0)=true:=Yv c2;clear c2;obtain rfl:=Option.some.inj H;go_enter Try.func107,Try.ntmps107;go_wp2;go_ret;exact⟨by first|rfl|(simp;done)|(simp[*];done),by repeat(first|exact Drawn0.refl _|apply Drawn0.step)⟩
end P
namespace H
open P
attribute [local irreducible] wpQuiet
theorem info3:(Try.prog.info? 3).map (fun i=>(i.zero,i.size,i.bytes))=some (some (.int .i64 0),1,8):=by kernel_rfl
def ringAt (X:Nat→Int) (m i:Nat):List Int:=(List.range i).map X ++ List.replicate (2 * m+4 - i) 0
theorem made_ring (X:Nat→Int) (m:Nat) (hm:m≤200): ∀ W:World,(Instr.makeSlice 31 (.int .i64 0) (.int .i64 (2 * (m:Int)+4))).run Try.prog W= .ok (.slice (some ⟨W.heap.size,0,none⟩) 0 (2 * m+4)) (W.alloc (.cells (nums .i64 (ringAt X m 0)).toArray 3)):=by
 intro W;have er:ringAt X m 0=List.replicate (2 * m+4) 0:=by simp[ringAt]
 rw[er];obtain⟨i0,hi,hzz⟩:=Option.map_eq_some_iff.1 info3;simp only[Prod.mk.injEq] at hzz;obtain⟨hz0,hz1,hz2⟩:=hzz;have hr:=run_make (P:=Try.prog) W 31 3 i0 (.int .i64 0) Try.underlying31 hi hz0 .i64 .i64 (0:Int) (2 * (m:Int)+4) (by omega) (by omega) (by rw[hz2];omega) (by omega);rw[hz1] at hr;have e1:(2 * (m:Int)+4).toNat=2 * m+4:=by omega
 rw[e1] at hr;have hl:(madeCells #[Value.int .i64 0] ((2 * m+4) * 1))=(nums .i64 (List.replicate (2 * m+4) 0)).toArray:=by
  apply Array.ext';apply List.ext_getElem
  ·simp[nums,madeCells]
  ·intro i h1 h2
   simp[nums,madeCells,Nat.mod_one]
 exact hr.trans (by rw[← hl];rfl)
theorem ringAt_len (X:Nat→Int) (m i:Nat) (h:i≤m):(ringAt X m i).length=2 * m+4:=by simp[ringAt];omega
theorem ringAt_set (X:Nat→Int) (m i:Nat) (h:i<m):(ringAt X m i).set i (X i)=ringAt X m (i+1):=by
 unfold ringAt;rw[List.set_append_right _ _ (by simp),List.range_succ,List.map_append,List.append_assoc];congr 1;simp only[List.length_map,List.length_range,Nat.sub_self,List.map_cons,List.map_nil,List.cons_append,List.nil_append];rw[show 2 * m+4 - i=(2 * m+4 - (i+1))+1 by omega,List.replicate_succ];rfl
set_option maxHeartbeats 1000000 in
set_option maxRecDepth 100000 in
theorem grow_nil (g:Nat) (w:World) (c0:w.cell? ⟨g,0,none⟩=some (.slice none 0 0)) (c2:w.cell? ⟨g,2,none⟩=some (.int .i64 0)) (f0:w.frozen? ⟨g,0,none⟩=false) (f1:w.frozen? ⟨g,1,none⟩=false) (c1:w.cell? ⟨g,1,none⟩=some (.int .i64 0)):
  Calls Try.prog 108 #[.pointer (some ⟨g,0,none⟩)] w fun e w'=>e= .returned (.tuple #[])∧w'=((w.alloc (.cells (nums .i64 (ringAt (fun _=>0) 0 0)).toArray 3)).setCell ⟨g,0,none⟩ (.slice (some ⟨w.heap.size,0,none⟩) 4 4)).setCell ⟨g,1,none⟩ (.int .i64 0):=by
 have hu:=Try.underlying149;have hg:=Yb w _ c0;have hmk:=made_ring (fun _=>0) 0 (by omega);simp only[Int.ofNat_zero,Int.mul_zero,Int.zero_add,Nat.mul_zero,Nat.zero_add,Int.natCast_zero] at hmk;go_enter Try.func108,Try.ntmps108;go_wp2_with fail;go_loopw [2,16] (fun v2 v16 w'=>v2= .slice (some ⟨w.heap.size,0,none⟩) 0 4∧v16= .int .i64 0∧Aside0 (w'=w.alloc (.cells (nums .i64 (ringAt (fun _=>0) 0 0)).toArray 3))) (fun _ _ _=>0)
 case atStart=>exact⟨rfl,rfl,⟨rfl⟩⟩
 case round=>
  obtain⟨rfl,rfl,HW⟩:=hrel;have hw:=HW.out;subst hw;go_wp2_with fail;exact bodyPost_end (results_none rfl _ _ _) rfl ⟨rfl,rfl⟩
theorem ring_put {W:World} {H:Nat} {X:Nat→Int} {m i:Nat} (h:W.heap[H]? =some (.cells (nums .i64 (ringAt X m i)).toArray 3 (0,0))) (hi:i<m):(W.setCells H (0+i * 1) [.int .i64 (X i)]).heap[H]? =some (.cells (nums .i64 (ringAt X m (i+1))).toArray 3 (0,0)):=by
 rw[show 0+i * 1=i by omega, ← ringAt_set X m i hi];refine(blk_set h i (.int .i64 (X i))).trans ?_;simp[nums,List.map_set]
theorem below_cells {w W:World} {H o:Nat} {v:Value} (h:Below w.heap.size w W) (hH:w.heap.size≤H):Below w.heap.size w (W.setCells H o [v]):=Yh h hH
theorem far_keep {wr W:World} {H o:Nat} {vs:List Value} {a:Addr} {v:Value} (hc:wr.cell? a=some v) (hB:Below wr.heap.size wr W) (hne:a.block≠H):(W.setCells H o vs).cell? a=some v:=
 (World.cell?_of_block (setCells_far vs o a.block hne)).trans (pw_cell_below hB hc)
theorem spare_ok {W wr:World} {H i:Nat} {cs:Array Value} {x:Value} (hb:wr.heap[H]? =some (.cells cs 3 (0,0))) (hW:W.heap[H]? =wr.heap[H]?) (hi:i<cs.size): ∀ j,j<[x].length→(W.cell? ⟨H,0+i * 1+j,none⟩).isSome=true∧W.frozen? ⟨H,0+i * 1+j,none⟩=false:=by
 intro j hj;have hj0:j=0:=by simpa using hj
 subst hj0;have h:=hW.trans hb;refine⟨?_,Yf h _⟩;rw[Yc h,show 0+i * 1+0=i by omega,Array.getElem?_eq_getElem hi];rfl
set_option maxHeartbeats 2000000 in
set_option maxRecDepth 100000 in
theorem grow_core (g b m fr:Nat) (X:Nat→Int) (w:World) (c0:w.cell? ⟨g,0,none⟩=some (.slice (some ⟨b,0,none⟩) m m)) (c1:w.cell? ⟨g,1,none⟩=some (.int .i64 fr)) (c2:w.cell? ⟨g,2,none⟩=some (.int .i64 m)) (hX: ∀ i,i<m→w.cell? ⟨b,(fr+i) % m,none⟩=some (.int .i64 (X i)))
  (f0:w.frozen? ⟨g,0,none⟩=false) (f1:w.frozen? ⟨g,1,none⟩=false) (hm0:0<m) (hm:m≤96) (hfr:fr<m):
  Calls Try.prog 108 #[.pointer (some ⟨g,0,none⟩)] w fun e w'=>e= .returned (.tuple #[])∧ ∃ w1,Below w.heap.size w w1∧w1.heap[w.heap.size]? =some (.cells (nums .i64 (ringAt X m m)).toArray 3 (0,0))∧w'=(w1.setCell ⟨g,0,none⟩ (.slice (some ⟨w.heap.size,0,none⟩) (2 * m+4) (2 * m+4))).setCell ⟨g,1,none⟩ (.int .i64 0):=by
 have hu:=Try.underlying149;obtain⟨i0,hi,hzz⟩:=Option.map_eq_some_iff.1 info3;simp only[Prod.mk.injEq] at hzz;have HI:=Ya hi;have HS1:=Ya hzz.2.1;clear hi hzz;have hg:=Yb w _ c0;have hb:=Yb w _ (hX 0 hm0);have C0:=Ya c0;have C1:=Ya c1;have F0:=Ya f0;have F1:=Ya f1;have HX:=Ya hX;have hmk:=made_ring X m (by omega);have q1:(m:Int)≤96:=by omega
 have q2:(0:Int)<(m:Int):=by omega
 clear hX;go_enter Try.func108,Try.ntmps108;go_wp2_with fail;clear hmk c0 c1 c2 f0 f1;go_loopw [2,16] (fun v2 v16 w'=> ∃ i:Nat,i≤m∧v16= .int .i64 i∧v2= .slice (some ⟨w.heap.size,0,none⟩) i (2 * m+4)∧Aside0 (w'.heap[w.heap.size]? =some (.cells (nums .i64 (ringAt X m i)).toArray 3 (0,0)))∧Aside0 (Below w.heap.size w w')) (fun _ v16 _=>m - (intOf v16).toNat)
 case atStart=>exact⟨0,Nat.zero_le _,rfl,rfl,⟨heap_alloc_new w _⟩,⟨Ye (Yo _ _) _⟩⟩
 case round=>
  obtain⟨i,hi,rfl,rfl,HR,HB⟩:=hrel;by_cases hlt:i<m
  ·have e1:decide ((i:Int)<(m:Int))=true:=Yv (by omega)
   have c0:=pw_cell_below HB.out C0.out;have c1:=pw_cell_below HB.out C1.out;have cx:=pw_cell_below HB.out (HX.out i hlt);have hwr:IntKind.i64.wrap ((fr:Int)+(i:Int))=(fr:Int)+(i:Int):=IntWalk.i64_in _ (by omega);have htm:Int.tmod ((fr:Int)+(i:Int)) (m:Int)=(((fr+i) % m:Nat):Int):=rfl;have hj1:=Nat.mod_lt (fr+i) hm0;generalize (fr+i) % m=j at cx htm hj1;have hj0:(0:Int)≤(j:Int):=by omega
   have hj2:(j:Int)<(m:Int):=by omega
   have hlw:=HB.out.size;have hmz: ¬ m=0:=by omega
   go_wp2_with fail;have KB:Below wr.heap.size wr (wr.alloc (.cells #[.int .i64 (X i)] 3)).drew:=below_drew (Ye (Yo _ _) _);have K0:=far_keep (H:=w.heap.size) (o:=0+i * 1) (vs:=[.int .i64 (X i)]) c0 KB (by show g≠_;omega);have K1:=far_keep (H:=w.heap.size) (o:=0+i * 1) (vs:=[.int .i64 (X i)]) c1 KB (by show g≠_;omega);have K2:=far_keep (H:=w.heap.size) (o:=0+i * 1) (vs:=[.int .i64 (X i)]) cx KB (by show b≠_;omega);have HR2:=Ya (ring_put (W:=(wr.alloc (.cells #[.int .i64 (X i)] 3)).drew) ((heap_alloc_old _ _ (blk_lt HR.out)).trans HR.out) hlt);have HB2:Aside0 (Below w.heap.size w ((wr.alloc (.cells #[.int .i64 (X i)] 3)).drew.setCells w.heap.size (0+i * 1) [.int .i64 (X i)])):=⟨below_cells (below_drew (Ye HB.out _)) (Nat.le_refl _)⟩;go_region_held3 (fun w'=>w'.cell? ⟨g,0,none⟩=some (.slice (some ⟨b,0,none⟩) m m)∧w'.cell? ⟨g,1,none⟩=some (.int .i64 fr)∧w'.cell? ⟨b,j,none⟩=some (.int .i64 (X i))) (first|exact⟨K0,K1,K2⟩|(go_split_ands;exact⟨K0,K1,K2⟩)|go_keep)
    ((refine step_append_room rfl _ _ _ (by rfl) 3 i0 1 Try.underlying31 HI.out HS1.out w.heap.size 0 i (2 * m+4) (by rfl) ⟨wr.heap.size,0,none⟩ 1 1 [.int .i64 (X i)] (by rfl) (by rfl) (World.news_of_block (cs:= #[.int .i64 (X i)]) (t:=3) (fr:=(0,0)) (heap_alloc_new _ _)) (by simp[Value.oneCell']) (by omega) (spare_ok HR.out (heap_alloc_old _ _ (blk_lt HR.out)) (by simp[nums,ringAt_len _ _ _ hi];omega)) ?_))
   clear K0 K1 K2 KB c0 c1 cx htm hwr;generalize (wr.alloc (.cells #[.int .i64 (X i)] 3)).drew.setCells w.heap.size (0+i * 1) [.int .i64 (X i)]=w9 at HR2 HB2 ⊢;go_wp2_with fail;go_roundw
   case rel=>exact⟨i+1,by omega,by go_num,rfl,HR2,HB2⟩
   case measure=>simp[intOf]<;>omega
  ·have ei:i=m:=by omega
   subst ei;have e1:decide ((i:Int)<(i:Int))=false:=Yw (by omega);have c0:=pw_cell_below HB.out C0.out;have c1:=pw_cell_below HB.out C1.out;have f0:wr.frozen? ⟨g,0,none⟩=false:=(HB.out.frozen (p:=⟨g,0,none⟩) hg).trans F0.out;have f1:wr.frozen? ⟨g,1,none⟩=false:=(HB.out.frozen (p:=⟨g,1,none⟩) hg).trans F1.out;go_wp2_with fail;refine bodyPost_end (results_none rfl _ _ _) rfl ⟨rfl,wr,HB.out,HR.out,rfl⟩
theorem ring_full (X:Nat→Int) (m i:Nat) (hi:i<m):(ringAt X m m).getD ((0+i) % (ringAt X m m).length) 0=X i:=by
 rw[ringAt_len X m m (Nat.le_refl _),Nat.zero_add,Nat.mod_eq_of_lt (by omega)];unfold ringAt;rw[List.getD_eq_getElem?_getD,List.getElem?_append_left (by simpa using hi)];simp[hi]
theorem que_grow (g:Nat) (A:Option Addr) (R:List Int) (fr mo:Nat) (w:World) (h:Qu w g A R fr R.length mo):
  Calls Try.prog 108 #[.pointer (some ⟨g,0,none⟩)] w fun e w'=>e= .returned (.tuple #[])∧ ∃ R',R'.length=2 * R.length+4∧Qu w' g (some ⟨w.heap.size,0,none⟩) R' 0 R.length mo∧qL R' 0 R.length=qL R fr R.length∧Ks (fun k=>k=g) w w':=by
 have hg:=blk_lt h.hd;have hs:=h.szm;have h50:=h.mo50;rcases h.ring with ⟨rfl,rfl⟩|⟨b,rfl,hp,hb⟩
 ·rcases h.frr with h1|⟨rfl,_⟩
  ·exact absurd h1 (by simp)
  refine(grow_nil g w ((Yc h.hd 0).trans rfl) ((Yc h.hd 2).trans rfl) (Yf h.hd 0) (Yf h.hd 1) ((Yc h.hd 1).trans rfl)).mono ?_;rintro e w' ⟨rfl,rfl⟩;have hw: ∀ o,(w.alloc o).heap[g]? =some (.cells #[.slice none 0 0, .int .i64 (0:Nat), .int .i64 (0:Nat), .int .i64 mo] 149 (0,0)):=fun o=>(heap_alloc_old _ _ hg).trans h.hd
  refine⟨rfl,ringAt (fun _=>0) 0 0,ringAt_len _ _ _ (Nat.le_refl _),⟨blk_set (blk_set (hw _) 0 _) 1 _, .inr ⟨_,rfl,by rw[ringAt_len _ _ _ (Nat.le_refl _)];omega,?_⟩,Nat.zero_le _, .inl (by rw[ringAt_len _ _ _ (Nat.le_refl _)];omega),hs,h50,by rw[ringAt_len _ _ _ (Nat.le_refl _)];omega⟩,rfl,?_⟩
  ·exact blk_far (blk_far (heap_alloc_new w _) (p:=⟨g,0,none⟩) (by show w.heap.size≠g;omega) _) (p:=⟨g,1,none⟩) (by show w.heap.size≠g;omega) _
  ·exact(((Ks.refl (fun k=>k=g) w).below (Ye (Yo _ _) _)).set (g:=g) (fun _=>rfl) 0 _).set (g:=g) (fun _=>rfl) 1 _
 ·have hfr:fr<R.length:=by
   rcases h.frr with h1|⟨_,h1⟩
   ·exact h1
   ·rw[h1] at hp;exact absurd hp (by simp)
  refine(grow_core g b R.length fr (fun i=>R.getD ((fr+i) % R.length) 0) w ((Yc h.hd 0).trans rfl) ((Yc h.hd 1).trans rfl) ((Yc h.hd 2).trans rfl) (fun i hi=>(Yc hb _).trans (nums_get R _ (Nat.mod_lt _ hp))) (Yf h.hd 0) (Yf h.hd 1) hp (by omega) hfr).mono ?_;rintro e w' ⟨rfl,w1,hbw,hr,rfl⟩;have hw:=(hbw.block g hg).trans h.hd;have hl:=ringAt_len (fun i=>R.getD ((fr+i) % R.length) 0) R.length R.length (Nat.le_refl _);refine⟨rfl,ringAt (fun i=>R.getD ((fr+i) % R.length) 0) R.length R.length,hl,⟨?_, .inr ⟨_,rfl,by omega,?_⟩,by omega, .inl (by omega),hs,h50,by omega⟩,?_,?_⟩
  ·have h2:=blk_set (blk_set hw 0 (.slice (some ⟨w.heap.size,0,none⟩) (2 * R.length+4) (2 * R.length+4))) 1 (.int .i64 0)
   rw[hl];exact h2
  ·exact blk_far (blk_far hr (p:=⟨g,0,none⟩) (by show w.heap.size≠g;omega) _) (p:=⟨g,1,none⟩) (by show w.heap.size≠g;omega) _
  ·unfold qL
   apply List.map_congr_left;intro i hi;exact ring_full _ _ _ (List.mem_range.1 hi)
  ·exact(((Ks.refl (fun k=>k=g) w).below hbw).set (g:=g) (fun _=>rfl) 0 _).set (g:=g) (fun _=>rfl) 1 _
end H
namespace H
open P
attribute [local irreducible] wpQuiet
set_option maxHeartbeats 2000000 in
set_option maxRecDepth 100000 in
theorem put_core (g b m fr sz mo j:Nat) (x:Int) (w:World) (c0:w.cell? ⟨g,0,none⟩=some (.slice (some ⟨b,0,none⟩) m m)) (c1:w.cell? ⟨g,1,none⟩=some (.int .i64 fr)) (c2:w.cell? ⟨g,2,none⟩=some (.int .i64 sz)) (c3:w.cell? ⟨g,3,none⟩=some (.int .i64 mo)) (y:Int) (cx:w.cell? ⟨b,j,none⟩=some (.int .i64 y)) (hj:(fr+sz) % m=j)
  (f2:w.frozen? ⟨g,2,none⟩=false) (fx:w.frozen? ⟨b,j,none⟩=false) (hne:g≠b) (hsm:sz<m) (hmo:sz<mo) (hm:m≤200) (hfr:fr<m) (hmo2:mo≤50):
  Calls Try.prog 101 #[.pointer (some ⟨g,0,none⟩), .int .i64 x] w fun e w'=>e= .returned (.int .i64 0)∧w'=((w.setCell ⟨b,j,none⟩ (.int .i64 x)).setCell ⟨g,2,none⟩ (.int .i64 ((sz:Int)+1))).drew.drew.drew:=by
 have hu:=Try.underlying149;have p0:(0:Int)≤(fr:Int):=by omega
 have p1:(fr:Int)<(m:Int):=by omega
 have p2:(m:Int)≤200:=by omega
 have p3:(sz:Int)<(m:Int):=by omega
 have p4:(0:Int)≤(sz:Int):=by omega
 have p5:(sz:Int)≤50:=by omega
 have p6:(0:Int)<(m:Int):=by omega
 have hj2:((fr:Int)+(sz:Int)) % (m:Int)=(j:Int):=by rw[← hj,Int.natCast_emod];rfl
 have hj1:(j:Int)<(m:Int):=by rw[← hj];have:=Nat.mod_lt (fr+sz) (show 0<m by omega);omega
 have hj0:(0:Int)≤(j:Int):=by omega
 have e1:((sz:Int) == (mo:Int))=false:=beq_eq_false_iff_ne.2 (by omega);have e2:((sz:Int) == (m:Int))=false:=beq_eq_false_iff_ne.2 (by omega);clear hj hsm hmo hfr;go_enter Try.func101,Try.ntmps101;go_wp2_with fail;go_region;go_wp2_with fail;go_region;go_wp2_with fail;go_region;go_wp2_with fail;go_ret;exact⟨rfl,rfl⟩
theorem qL_put (R:List Int) (fr sz:Nat) (x:Int) (h:sz<R.length):qL (R.set ((fr+sz) % R.length) x) fr (sz+1)=qL R fr sz ++ [x]:=by
 unfold qL;rw[List.range_succ,List.map_append,List.length_set];congr 1
 ·apply List.map_congr_left
  intro i hi;have hi:=List.mem_range.1 hi;rw[getD_set_ne];intro e;have h1:(fr+sz - (fr+i)) % R.length=0:=Nat.sub_mod_eq_zero_of_mod_eq e;rw[show fr+sz - (fr+i)=sz - i by omega,Nat.mod_eq_of_lt (by omega)] at h1;omega
 ·rw[List.map_cons,List.map_nil,getD_set_eq _ _ _ _ (Nat.mod_lt _ (by omega))]
theorem qu_put {w:World} {g b:Nat} {R:List Int} {fr sz mo:Nat} (h:Qu w g (some ⟨b,0,none⟩) R fr sz mo) (hs:sz<R.length) (hm:sz<mo) (x:Int):
  Qu ((w.setCell ⟨b,(fr+sz) % R.length,none⟩ (.int .i64 x)).setCell ⟨g,2,none⟩ (.int .i64 ((sz:Int)+1))) g (some ⟨b,0,none⟩) (R.set ((fr+sz) % R.length) x) fr (sz+1) mo:=by
 have hne:=h.ne;have hring:w.heap[b]? =some (.cells (nums .i64 R).toArray 3 (0,0)):=by
  rcases h.ring with ⟨h1,_⟩|⟨c,h1,h2,h3⟩
  ·cases h1
  ·cases h1;exact h3
 refine⟨?_, .inr ⟨b,rfl,by rw[List.length_set];omega,?_⟩,by rw[List.length_set];omega,?_,hm,h.mo50,by rw[List.length_set];exact h.len⟩
 ·rw[List.length_set]
  exact blk_set (blk_far h.hd (p:=⟨b,(fr+sz) % R.length,none⟩) hne _) 2 _
 ·have h1:=blk_far (blk_set hring ((fr+sz) % R.length) (.int .i64 x)) (p:=⟨g,2,none⟩) (Ne.symm hne) (.int .i64 ((sz:Int)+1))
  refine h1.trans ?_;simp[nums,List.map_set]
 ·rcases h.frr with h1|⟨_,h1⟩
  ·exact .inl (by rw[List.length_set];exact h1)
  ·rw[h1] at hs;exact absurd hs (by simp)
theorem que_put_room (g b:Nat) (R:List Int) (fr sz mo:Nat) (x:Int) (w:World) (h:Qu w g (some ⟨b,0,none⟩) R fr sz mo) (hs:sz<R.length) (hm:sz<mo):
  Calls Try.prog 101 #[.pointer (some ⟨g,0,none⟩), .int .i64 x] w fun e w'=>e= .returned (.int .i64 0)∧ ∃ R',Qu w' g (some ⟨b,0,none⟩) R' fr (sz+1) mo∧qL R' fr (sz+1)=qL R fr sz ++ [x]∧Ks (fun k=>k=g∨k=b) w w':=by
 have hring:w.heap[b]? =some (.cells (nums .i64 R).toArray 3 (0,0)):=by
  rcases h.ring with ⟨h1,_⟩|⟨c,h1,h2,h3⟩
  ·cases h1
  ·cases h1;exact h3
 have hfr:fr<R.length:=by
  rcases h.frr with h1|⟨_,h1⟩
  ·exact h1
  ·rw[h1] at hs;exact absurd hs (by simp)
 have hj:=Nat.mod_lt (fr+sz) (show 0<R.length by omega);have h50:=h.mo50;have hl:=h.len;refine(put_core g b R.length fr sz mo ((fr+sz) % R.length) x w ((Yc h.hd 0).trans rfl) ((Yc h.hd 1).trans rfl) ((Yc h.hd 2).trans rfl) ((Yc h.hd 3).trans rfl) _ ((Yc hring _).trans (nums_get R _ hj)) rfl (Yf h.hd 2) (Yf hring _) h.ne hs hm (by omega) hfr h50).mono ?_;rintro e w' ⟨rfl,rfl⟩;exact⟨rfl,_,(qu_put h hs hm x).below (below_drew (below_drew (below_drew (Yo _ _)))),qL_put R fr sz x hs,(((Ks.refl (fun k=>k=g∨k=b) w).set (g:=b) (fun _=> .inr rfl) _ _).set (g:=g) (fun _=> .inl rfl) _ _).below (below_drew (below_drew (below_drew (Yo _ _))))⟩
theorem que_grow_ (g:Nat) (A:Option Addr) (R:List Int) (fr m mo:Nat) (w:World) (hm:R.length=m) (h:Qu w g A R fr m mo):
  Calls Try.prog 108 #[.pointer (some ⟨g,0,none⟩)] w fun e w'=>e= .returned (.tuple #[])∧ ∃ R',R'.length=2 * m+4∧Qu w' g (some ⟨w.heap.size,0,none⟩) R' 0 m mo∧qL R' 0 m=qL R fr m∧Ks (fun k=>k=g) w w':=by
 subst hm;exact que_grow g A R fr mo w h
set_option maxHeartbeats 2000000 in
set_option maxRecDepth 100000 in
theorem que_put_grow (g:Nat) (A:Option Addr) (R:List Int) (fr mo:Nat) (x:Int) (w:World) (h:Qu w g A R fr R.length mo) (hm:R.length<mo):
  Calls Try.prog 101 #[.pointer (some ⟨g,0,none⟩), .int .i64 x] w fun e w'=>e= .returned (.int .i64 0)∧ ∃ b R',w.heap.size≤b∧Qu w' g (some ⟨b,0,none⟩) R' 0 (R.length+1) mo∧qL R' 0 (R.length+1)=qL R fr R.length ++ [x]∧Ks (fun k=>k=g) w w':=by
 have hu:=Try.underlying149;have H:=Ya h;have h50:=h.mo50;have c0:w.cell? ⟨g,0,none⟩=some (.slice A R.length R.length):=(Yc h.hd 0).trans rfl;have c2:w.cell? ⟨g,2,none⟩=some (.int .i64 R.length):=(Yc h.hd 2).trans rfl;have c3:w.cell? ⟨g,3,none⟩=some (.int .i64 mo):=(Yc h.hd 3).trans rfl;generalize hml:R.length=m at *;have HML:=Ya hml;clear hml h;have p4:(0:Int)≤(m:Int):=by omega
 have p5:(m:Int)≤50:=by omega
 have e1:((m:Int) == (mo:Int))=false:=beq_eq_false_iff_ne.2 (by omega);go_enter Try.func101,Try.ntmps101;go_wp2_with fail;go_region;go_wp2_with fail;go_region;go_wp2_with fail;clear c0 c2 c3;go_wp2_with (first|(go_at_call 108;refine(que_grow_ g A R fr m mo _ HML.out (H.out.below (below_drew (below_drew (Yo _ _))))).mono ?_;rintro e_ w3 ⟨rfl,R',hl',hq,hql,hk⟩;obtain⟨b,hbe⟩: ∃ b_,b_=w.heap.size:=⟨_,rfl⟩;(have hq:Qu w3 g (some ⟨b,0,none⟩) R' 0 m mo:=by(rw[hbe];exact hq));have HBE:=Ya hbe;clear hbe;have HQ:=Ya hq;have HQL:=Ya hql;have HK:=Ya hk;clear hq hql hk;obtain⟨M,hM⟩: ∃ M_,M_=R'.length:=⟨_,rfl⟩;have c0:w3.cell? ⟨g,0,none⟩=some (.slice (some ⟨b,0,none⟩) M M):=by(rw[hM];exact(Yc HQ.out.hd 0).trans rfl))|fail);have hm1:m<M:=by omega
 have hm2:M≤104:=by omega
 have hring:w3.heap[b]? =some (.cells (nums .i64 R').toArray 3 (0,0)):=by
  rcases HQ.out.ring with ⟨h1,_⟩|⟨c,h1,h2,h3⟩
  ·cases h1
  ·cases h1;exact h3
 have hne:=HQ.out.ne;have c1:w3.cell? ⟨g,1,none⟩=some (.int .i64 0):=(Yc HQ.out.hd 1).trans rfl;have c2:w3.cell? ⟨g,2,none⟩=some (.int .i64 m):=(Yc HQ.out.hd 2).trans rfl;have cx:w3.cell? ⟨b,m,none⟩=some (.int .i64 (R'.getD m 0)):=(Yc hring _).trans (nums_get R' _ (by omega));have fx:w3.frozen? ⟨b,m,none⟩=false:=Yf hring _;have f2:=Yf HQ.out.hd 2;generalize R'.getD m 0=yy at cx;have HM:=Ya hM;have HL:=Ya hl';clear hM hl' hring;have q0:(0:Int)<(M:Int):=by omega
 have q1:(m:Int)<(M:Int):=by omega
 have q2:(M:Int)≤104:=by omega
 have hj2:(m:Int) % (M:Int)=(m:Int):=Int.emod_eq_of_lt p4 q1;go_wp2_with fail;go_region;go_wp2_with fail;go_ret;have hmod:(0+m) % R'.length=m:=by rw[← HM.out,Nat.zero_add,Nat.mod_eq_of_lt hm1]
 have h1:=qu_put HQ.out (by rw[← HM.out];exact hm1) hm x;have h2:=qL_put R' 0 m x (by rw[← HM.out];exact hm1);rw[hmod] at h1 h2;refine⟨rfl,b,R'.set m x,by rw[HBE.out];exact Nat.le_refl _,?_,?_,?_⟩
 ·exact h1.below (below_drew (Yo _ _))
 ·exact h2.trans (by rw[HQL.out])
 ·have hk:Ks (fun k=>k=g) w w3:=HK.out.trans' (below_drew (below_drew (Yo _ _)))
  exact(((hk.set (g:=b) (fun hlt=>absurd hlt (by rw[HBE.out];exact Nat.lt_irrefl _)) _ _).set (g:=g) (fun _=>rfl) _ _)).below (below_drew (Yo _ _))
theorem que_new (mo:Nat) (w:World) (h50:mo≤50):
  Calls Try.prog 100 #[.int .i64 (mo:Int)] w fun e w'=> ∃ g,e= .returned (.tuple #[.pointer (some ⟨g,0,none⟩), .int .i64 0])∧w.heap.size≤g∧Qu w' g none [] 0 0 mo∧Below w.heap.size w w':=by
 have hrm:pile_room.f (mo:Int)=some true:=by
  unfold pile_room.f;rw[Yx (by omega)];simp;omega
 have HRM:=Ya hrm;clear hrm;have hu:=Try.underlying149;go_enter Try.func100,Try.ntmps100;go_wp2_with (first|(go_at_call 107;refine(pile_room.calls (mo:Int) true _ HRM.out).mono ?_;rintro e_ w1 ⟨rfl,hd⟩;have HD:=Ya hd.below;clear hd)|fail);go_ret2;have hw:=heap_alloc_new w1 (.cells #[.slice none 0 0, .int .i64 0, .int .i64 0, .int .i64 mo] 149);exact⟨w1.heap.size,rfl,HD.out.size,⟨hw, .inl ⟨rfl,rfl⟩,Nat.le_refl _, .inr ⟨rfl,rfl⟩,Nat.zero_le _,h50,Nat.zero_le _⟩,Ye HD.out _⟩
theorem que_put (g:Nat) (A:Option Addr) (R:List Int) (fr sz mo:Nat) (x:Int) (w:World) (h:Qu w g A R fr sz mo) (hm:sz<mo):
  Calls Try.prog 101 #[.pointer (some ⟨g,0,none⟩), .int .i64 x] w fun e w'=>e= .returned (.int .i64 0)∧ ∃ (A':Option Addr) (R':List Int) (fr':Nat),Qu w' g A' R' fr' (sz+1) mo∧qL R' fr' (sz+1)=qL R fr sz ++ [x]∧Ks (quS g A) w w'∧ ∀ k,quS g A' k→quS g A k∨w.heap.size≤k:=by
 by_cases hs:sz<R.length
 ·rcases h.ring with ⟨_,h1⟩|⟨b,rfl,_,_⟩
  ·rw[h1] at hs;exact absurd hs (by simp)
  ·refine(que_put_room g b R fr sz mo x w h hs hm).mono ?_
   rintro e w' ⟨rfl,R',h1,h2,h3⟩;exact⟨rfl,_,R',fr,h1,h2,h3.mono (fun k hk _=>hk.elim .inl (fun h=> .inr ⟨_,rfl,h⟩)),fun k hk=> .inl hk⟩
 ·have e:sz=R.length:=by have:=h.szr;omega
  subst e;refine(que_put_grow g A R fr mo x w h hm).mono ?_;rintro e w' ⟨rfl,b,R',h1,h2,h3,h4⟩;refine⟨rfl,_,R',0,h2,h3,h4.mono (fun k hk _=> .inl hk),fun k hk=> ?_⟩;rcases hk with rfl|⟨a,ha,rfl⟩
  ·exact .inl (.inl rfl)
  ·cases ha;exact .inr h1
end H
namespace P
attribute [local go_sem] max2_int min2_int max_two min_two max_three min_three max_four min_four
def bits_Mul64.f (a0:Int) (a1:Int):Option (Int × Int):=some (IntKind.u64.wrap ((IntKind.u64.wrap ((IntKind.u64.wrap ((a0 / 4294967296) * (a1 / 4294967296)))+((IntKind.u64.wrap ((IntKind.u64.wrap ((a0 / 4294967296) * (Go.bits .and .u64 a1 4294967295)))+((IntKind.u64.wrap ((Go.bits .and .u64 a0 4294967295) * (Go.bits .and .u64 a1 4294967295))) / 4294967296))) / 4294967296)))+((IntKind.u64.wrap ((Go.bits .and .u64 (IntKind.u64.wrap ((IntKind.u64.wrap ((a0 / 4294967296) * (Go.bits .and .u64 a1 4294967295)))+((IntKind.u64.wrap ((Go.bits .and .u64 a0 4294967295) * (Go.bits .and .u64 a1 4294967295))) / 4294967296))) 4294967295)+(IntKind.u64.wrap ((Go.bits .and .u64 a0 4294967295) * (a1 / 4294967296))))) / 4294967296)),IntKind.u64.wrap (a0 * a1))
set_option maxHeartbeats 8000000 in
set_option maxRecDepth 100000 in
theorem bits_Mul64.calls (a0:Int) (a1:Int) (r1:Int) (r2:Int) (w:World) (h:bits_Mul64.f a0 a1=some (r1,r2)):
  Calls Try.prog 111 #[.int .u64 a0, .int .u64 a1] w fun e w'=>e= .returned (.tuple #[.int .u64 r1, .int .u64 r2])∧Drawn0 w w':=by
 have H:=h;unfold bits_Mul64.f at H;clear h;simp only[Option.some.injEq,Prod.mk.injEq] at H;obtain⟨rfl,rfl⟩:=H;go_enter Try.func111,Try.ntmps111;go_wp2;go_ret2;exact⟨by first|rfl|(simp;done)|(simp[*];done),by repeat(first|exact Drawn0.refl _|apply Drawn0.step)⟩
end P
namespace P
attribute [local go_sem] max2_int min2_int max_two min_two max_three min_three max_four min_four
def bits_Mul.f (a0:Int) (a1:Int):Option (Int × Int):=(bits_Mul64.f a0 a1).bind fun bt463=>(some (bt463.1,bt463.2))
set_option maxHeartbeats 8000000 in
set_option maxRecDepth 100000 in
theorem bits_Mul.calls (a0:Int) (a1:Int) (r1:Int) (r2:Int) (w:World) (h:bits_Mul.f a0 a1=some (r1,r2)):
  Calls Try.prog 106 #[.int .u64 a0, .int .u64 a1] w fun e w'=>e= .returned (.tuple #[.int .u64 r1, .int .u64 r2])∧Drawn0 w w':=by
 have H:=h;unfold bits_Mul.f at H;clear h;replace H:=Option.bind_eq_some_iff.mp H;obtain⟨⟨t463,t464⟩,A30,H⟩:=H;try dsimp only at H
 have A3:=Ya A30;clear A30;simp only[Option.some.injEq,Prod.mk.injEq] at H;obtain⟨rfl,rfl⟩:=H;go_enter Try.func106,Try.ntmps106;go_wp2_with (first|((with_reducible refine gate_callee (f:=111) rfl ?_);refine gl (some 25) Try.func111 #[.int .u64 a0, .int .u64 a1] ?_;(with_reducible refine(bits_Mul64.calls a0 a1 t463 t464 _ A3.out).mono ?_);rintro e w' ⟨rfl,⟨nd,rfl⟩⟩;refine⟨_,rfl,?_⟩));go_ret2;exact⟨by first|rfl|(simp;done)|(simp[*];done),by repeat(first|exact Drawn0.refl _|apply Drawn0.step)⟩
end P
namespace H
open P
attribute [local irreducible] wpQuiet
theorem mul_small: ∀ n:Nat,n<51→bits_Mul.f 1 (n:Int)=some (0,(n:Int)):=by decide +kernel
theorem info3s:(Try.prog.info? 3).map (·.size)=some 1:=by kernel_rfl
def repAt (x:Int) (n k:Nat):List Value:=nums .i64 (List.replicate k x ++ List.replicate (n - k) 0)
theorem repAt_len (x:Int) (n k:Nat) (h:k≤n):(repAt x n k).length=n:=by simp[repAt,nums];omega
theorem made_rep (x:Int) (n:Nat) (hn:n≤50): ∀ W:World,(Instr.makeSlice 31 (.int .i64 (n:Int)) (.int .i64 (n:Int))).run Try.prog W= .ok (.slice (some ⟨W.heap.size,0,none⟩) n n) (W.alloc (.cells (repAt x n 0).toArray 3)):=by
 intro W;rw[print_make 31 3 .i64 8 Try.underlying31 (by kernel_rfl) (by omega) n (by omega) W];have hl:(madeCells #[Value.int .i64 0] n)=(repAt x n 0).toArray:=by
  apply Array.ext';apply List.ext_getElem
  ·simp[repAt,nums,madeCells]
  ·intro i h1 h2
   simp[repAt,nums,madeCells,Nat.mod_one]
 rw[hl]
theorem repAt_splice (x:Int) (n k m:Nat) (hk:k+m≤n):splice (repAt x n k) k (nums .i64 (List.replicate m x))=repAt x n (k+m):=by
 unfold repAt nums;simp only[List.map_append,List.map_replicate];unfold splice;rw[List.take_append_of_le_length (by simp),List.take_of_length_le (by simp),List.drop_append,List.drop_eq_nil_of_le (by simp),List.nil_append, ← List.append_assoc,List.replicate_append_replicate];simp;omega
theorem nums_one (L:List Int): ∀ v,v∈nums .i64 L→v.oneCell'=true:=by
 intro v hv;obtain⟨_,_,rfl⟩:=List.mem_map.1 hv;rfl
theorem one_cell {W:World} {b:Nat} {u:Value} (hc:W.cell? ⟨b,0,none⟩=some u): ∀ (j:Nat) (v:Value),[u][j]? =some v→W.cell? ((⟨b,0,none⟩:Addr).add j)=some v:=by
 intro j v hv;cases j with
 |zero=>rw[add_plain];injection hv with hv;rw[← hv];exact hc
 |succ j=>cases hv
set_option maxHeartbeats 2000000 in
set_option maxRecDepth 100000 in
theorem repeat_core (b c n:Nat) (x:Int) (w:World) (hb:w.cell? ⟨b,0,none⟩=some (.int .i64 x)) (hn0:0<n) (hn:n≤50):
  Calls Try.prog 99 #[.slice (some ⟨b,0,none⟩) 1 1, .int .i64 (n:Int)] w fun e w'=>e= .returned (.slice (some ⟨w.heap.size,0,none⟩) n n)∧w'.heap[w.heap.size]? =some (.cells (nums .i64 (List.replicate n x)).toArray 3 (0,0))∧Below w.heap.size w w':=by
 have hmul:=mul_small n (by omega);have HM:=Ya hmul;clear hmul;have hmk:=made_rep x n hn;have hbl:=Yb w _ hb;have HBC:=Ya hb;have q1:(n:Int)≤50:=by omega
 have q2:(0:Int)<(n:Int):=by omega
 have e1:decide ((n:Int)<0)=false:=Yw (by omega);go_enter Try.func99,Try.ntmps99;go_wp2_with (first|(go_at_call 106;refine(bits_Mul.calls 1 (n:Int) 0 (n:Int) _ HM.out).mono ?_;rintro e_ w1 ⟨rfl,hd⟩;obtain⟨nq,hnq⟩:=hd.out;subst hnq)|((with_reducible refine wpList_copy_splice rfl (.tmp 31) (.tmp 32) 31 31 rfl 3 Try.underlying31 info3s (some ⟨w.heap.size,0,none⟩) (some ⟨b,0,none⟩) n n 1 1 rfl rfl w.heap.size 0 (repAt x n 0) 3 (heap_alloc_new _ _) [.int .i64 x] ?cn (fun _=>⟨rfl,⟨b,0,none⟩,rfl,?cc⟩) ?cf ?c1 w.heap.size w ?cb (Nat.le_refl _) ?_);(case cn=>(show 1=min 1 n;omega));(case cc=>exact one_cell (pw_cell_below (Ye (Yd (Yo _ _) nq) _) HBC.out));(case cf=>(rw[repAt_len x n 0 (Nat.zero_le _)];show 0+1≤n;omega));(case c1=>simp[Value.oneCell']);(case cb=>exact Ye (Yd (Yo _ _) nq) _);intro w2 hr hbw;have HR:=Ya (hr.trans (by rw[show ([.int .i64 x]:List Value)=nums .i64 (List.replicate 1 x) from rfl,repAt_splice x n 0 1 (by omega)]));have HB:=Ya hbw;clear hr hbw)|fail);clear hmk;go_loopw [8] (fun v8 w'=> ∃ k:Nat,0<k∧k≤n∧v8= .int .i64 k∧Aside0 (w'.heap[w.heap.size]? =some (.cells (repAt x n k).toArray 3 (0,0)))∧Aside0 (Below w.heap.size w w')) (fun v8 _=>n - (intOf v8).toNat)
 case atStart=>exact⟨1,by omega,by omega,rfl,HR,HB⟩
 case round=>
  clear HR HB;obtain⟨k,hk0,hk,rfl,HR,HB⟩:=hrel;by_cases hlt:k<n
  ·have e2:decide ((k:Int)<(n:Int))=true:=Yv (by omega)
   have r0:(0:Int)≤(k:Int):=by omega
   have r1:(k:Int)≤(n:Int):=by omega
   have r2:(k:Int)<(n:Int):=by omega
   have r3: ¬ n=k:=by omega
   obtain⟨m,hm⟩: ∃ m_,m_=min k (n - k):=⟨_,rfl⟩;have hm1:k+m≤n:=by omega
   have hm2:0<m:=by omega
   have hm3:m≤k:=by omega
   have hsrc: ∀ (W:World),W.heap=wr.heap→ ∀ (j:Nat) (v:Value),(nums .i64 (List.replicate m x))[j]? =some v→W.cell? ((⟨w.heap.size,0,none⟩:Addr).add j)=some v:=by
    intro W hW j v hv;rw[add_plain,World.cell?_of_block (w:=wr) (by rw[hW]),Yc HR.out j];have hj:j<m:=by have:=(List.getElem?_eq_some_iff.1 hv).1;simpa [nums] using this
    rw[← hv];simp only[repAt,nums,List.map_append,List.map_replicate,List.getElem?_toArray];rw[List.getElem?_append_left (by simp;omega),List.getElem?_replicate,List.getElem?_replicate,Yx (by omega),Yx hj]
   have HS:=Ya hsrc;have HM2:Aside0 ((nums .i64 (List.replicate m x)).length=Nat.min k (n - k)):=⟨by rw[nums_length,List.length_replicate];exact hm⟩;have HFT:Aside0 (k+(nums .i64 (List.replicate m x)).length≤(repAt x n k).length):=⟨by rw[repAt_len x n k hk,nums_length,List.length_replicate];exact hm1⟩;clear hsrc hm;have hwr:IntKind.i64.wrap ((k:Int)+(m:Int))=(k:Int)+(m:Int):=IntWalk.i64_in _ (by omega);go_wp2_with fail;go_region_held3 (fun w'=>True) (trivial)
    ((refine step_copy_splice rfl _ _ 31 31 (by rfl) 3 Try.underlying31 info3s (some ⟨w.heap.size,k,none⟩) (some ⟨w.heap.size,0,none⟩) (n - k) (n - k) k n (by rfl) (by rfl) w.heap.size k (repAt x n k) 3 HR.out _ HM2.out (fun _=>⟨rfl,⟨w.heap.size,0,none⟩,rfl,HS.out _ (by rfl)⟩) HFT.out (nums_one _) w.heap.size w (below_drew HB.out) (Nat.le_refl _) ?_;intro w9 hr9 hb9))
   have HR9:Aside0 (w9.heap[w.heap.size]? =some (.cells (repAt x n (k+m)).toArray 3 (0,0))):=⟨by rw[← repAt_splice x n k m hm1];exact hr9⟩;have HB9:=Ya hb9;rw[nums_length,List.length_replicate,hwr];clear hr9 hb9 hwr HM2 HFT HS;go_wp2_with fail;go_roundw
   case rel=>exact⟨k+m,by omega,hm1,by go_num,HR9,HB9⟩
   case measure=>simp[intOf];omega
  ·have ek:k=n:=by omega
   subst ek;have e2:decide ((k:Int)<(k:Int))=false:=Yw (by omega);go_wp2_with fail;go_ret;exact⟨rfl,HR.out.trans (by simp[repAt]),HB.out⟩
end H
namespace H
theorem exists_least {P:Nat→Prop} : ∀ m,P m→ ∃ n,P n∧ ∀ k,P k→n≤k:=by
 intro m
 induction m using Nat.strongRecOn with
 |_ m ih=>
  intro hm;by_cases h: ∃ k,k<m∧P k
  ·obtain⟨k,hk,hp⟩:=h
   exact ih k hk hp
  ·exact⟨m,hm,fun k hk=>Nat.le_of_not_lt fun hl=>h ⟨k,hl,hk⟩⟩
open Classical in
noncomputable def least (P:Nat→Prop):Nat:=if h: ∃ n,P n∧ ∀ k,P k→n≤k then Classical.choose h else 0
theorem least_both {P:Nat→Prop} (h: ∃ m,P m):P (least P)∧ ∀ k,P k→least P≤k:=by
 obtain⟨m,hm⟩:=h;unfold least;rw[dif_pos (exists_least m hm)];exact Classical.choose_spec (exists_least m hm)
theorem least_spec {P:Nat→Prop} (h: ∃ m,P m):P (least P):=(least_both h).1
theorem least_le {P:Nat→Prop} {m:Nat} (h:P m):least P≤m:=(least_both ⟨m,h⟩).2 m h
theorem least_lt {P Q:Nat→Prop} {m:Nat} (h:Q m) (hm:m<least P):least Q<least P:=Nat.lt_of_le_of_lt (least_le h) hm
end H
namespace H
open P
attribute [local irreducible] wpQuiet
def stz (n:Nat):List Value:=stC (List.replicate n z79)
theorem made_steps (n:Nat) (hn:n≤50): ∀ W:World,(Instr.makeSlice 67 (.int .i64 (n:Int)) (.int .i64 (n:Int))).run Try.prog W= .ok (.slice (some ⟨W.heap.size,0,none⟩) n n) (W.alloc (.cells (stz n).toArray 79)):=by
 intro W;obtain⟨i0,hi,hzz⟩:=Option.map_eq_some_iff.1 info79;simp only[Prod.mk.injEq] at hzz;obtain⟨hz0,hz1,hz2⟩:=hzz;have hr:=run_make (P:=Try.prog) W 67 79 i0 _ Try.underlying67 hi hz0 .i64 .i64 (n:Int) (n:Int) (by omega) (by omega) (by rw[hz2];omega) (by omega);rw[hz1] at hr;simp only[Int.toNat_natCast] at hr;have hl:(madeCells (Value.agg #[.int .i64 0, .bool false]).cells (n * 2))=(stz n).toArray:=by
  apply Array.ext';apply List.ext_getElem?;intro i;unfold stz;by_cases h:i<n * 2
  ·have h2:=stC_get z79 (List.replicate n z79) (i / 2) (by simp;omega)
   have hg:(List.replicate n z79).getD (i / 2) z79=z79:=by
    rw[List.getD_eq_getElem?_getD,List.getElem?_replicate,Yx (by omega)];rfl
   rw[hg] at h2;rcases Nat.mod_two_eq_zero_or_one i with hm|hm
   ·rw[show i / 2 * 2=i by omega] at h2
    show _=(stC _)[i]?;rw[h2.1];simp[madeCells,Value.cells,h,hm,z79]
   ·rw[show i / 2 * 2+1=i by omega] at h2
    show _=(stC _)[i]?;rw[h2.2];simp[madeCells,Value.cells,h,hm,z79]
  ·rw[List.getElem?_eq_none (by simp[size_madeCells];omega),List.getElem?_eq_none (by simp[stC_len];omega)]
 rw[← hl];exact hr
structure Sm (n0:Nat) (Zb:Bool) (A2:Option Addr) (c2:Nat) (l:List S50) (A3:Option Addr) (c3:Nat) (F:List Int) (A4:Option Addr) (c4:Nat) (g3 gd gb gq:Nat) (w:World) (st:List (Fd S79)) (i:Nat) (w':World):Prop where
 D:IsI w' gd (dOf n0 st)
 B:IsS w' gb (bOf z79 n0 st)
 b3:w'.heap[g3]? =some (.cells #[.int .i64 n0, .bool Zb, .slice A2 l.length c2, .slice A3 F.length c3, .slice A4 n0 c4] 107 (0,0))
 que: ∃ (A:Option Addr) (R:List Int) (fr:Nat),Qu w' gq A R fr (st.length - i) n0∧qL R fr (st.length - i)=qOf st i∧ ∀ k,quS gq A k→w.heap.size≤k∧k≠gd∧k≠gb∧k≠g3
 below:Below w.heap.size w w'
theorem Sm.step {n0:Nat} {Zb:Bool} {A2:Option Addr} {c2:Nat} {l:List S50} {A3:Option Addr} {c3:Nat} {F:List Int} {A4:Option Addr} {c4:Nat} {g3 gd gb gq:Nat} {w:World} {st:List (Fd S79)} {i:Nat} {w1 w2:World}
  (h:Sm n0 Zb A2 c2 l A3 c3 F A4 c4 g3 gd gb gq w st i w1) (hb:Below w1.heap.size w1 w2):Sm n0 Zb A2 c2 l A3 c3 F A4 c4 g3 gd gb gq w st i w2:=by
 obtain⟨A,R,fr,h1,h2,h3⟩:=h.que;exact⟨h.D.below hb,h.B.below hb,Yn h.b3 hb,⟨A,R,fr,h1.below hb,h2,h3⟩,Yk h.below hb⟩
def seekW (w:World) (gd gb u:Nat) (a:Int) (e:S79):World:=(((w.setCell ⟨gd,u,none⟩ (.int .i64 a)).setCell ⟨gb,u * 2,none⟩ (.int .i64 e.f0)).setCell ⟨gb,u * 2+1,none⟩ (.bool e.f1)).drew
theorem seek_far (w:World) {gd gb g:Nat} (u:Nat) (a:Int) (e:S79) (h1:g≠gd) (h2:g≠gb):(seekW w gd gb u a e).heap[g]? =w.heap[g]? :=
 (Below.heap_setCell _ ⟨gb,u * 2+1,none⟩ _ g h2).trans ((Below.heap_setCell _ ⟨gb,u * 2,none⟩ _ g h2).trans (Below.heap_setCell _ ⟨gd,u,none⟩ _ g h1))
theorem seek_D {w:World} {gd gb:Nat} {D:List Int} (h:IsI w gd D) (hne:gd≠gb) (u:Nat) (a:Int) (e:S79):IsI (seekW w gd gb u a e) gd (D.set u a):=
 IsI.below ((((h.put u a).far (p:=⟨gb,u * 2,none⟩) hne _)).far (p:=⟨gb,u * 2+1,none⟩) hne _) (below_drew (Yo _ _))
theorem seek_B {w:World} {gd gb:Nat} {B:List S79} (h:IsS w gb B) (hne:gd≠gb) (u:Nat) (a:Int) (e:S79):IsS (seekW w gd gb u a e) gb (B.set u e):=
 IsS.below ((h.far (p:=⟨gd,u,none⟩) (Ne.symm hne) _).put u e) (below_drew (Yo _ _))
def SR (n0:Nat) (Zb:Bool) (A2:Option Addr) (c2:Nat) (l:List S50) (A3:Option Addr) (c3:Nat) (F:List Int) (A4:Option Addr) (c4:Nat) (g3 gd gb gq s:Nat) (t:Int) (w w':World) (m:Nat):Prop:=
 ∃ (st:List (Fd S79)) (i:Nat),m=n0 - i∧Lp l F n0 s t st i∧Sm n0 Zb A2 c2 l A3 c3 F A4 c4 g3 gd gb gq w st i w'
set_option maxHeartbeats 2000000 in
set_option maxRecDepth 100000 in
theorem seek_calls (n0:Nat) (Zb:Bool) (A2:Option Addr) (c2:Nat) (l:List S50) (A3:Option Addr) (c3:Nat) (F:List Int) (A4:Option Addr) (c4:Nat) (s:Nat) (t:Int) (w:World)
  (hR:Right l F n0) (hs:s<n0) (hts:t≠s) (hc2:l.length≤c2) (hc3:F.length≤c3) (h2:Kd.C k50 w A2 l.length l) (h3:Kd.C (Kd.int .i64) w A3 F.length F) (h4:(Kd.slice 79 k79).C w A4 n0 (rowsAt l n0 n0)):
  Calls Try.prog 91 #[.agg #[.int .i64 n0, .bool Zb, .slice A2 l.length c2, .slice A3 F.length c3, .slice A4 n0 c4], .int .i64 (s:Int), .int .i64 t] w fun e w'=> ∃ (gd gb:Nat) (st:List (Fd S79)),e= .returned (.tuple #[.slice (some ⟨gd,0,none⟩) n0 n0, .slice (some ⟨gb,0,none⟩) n0 n0])∧w.heap.size≤gd∧w.heap.size≤gb∧gd≠gb∧IsI w' gd (dOf n0 st)∧IsS w' gb (bOf z79 n0 st)∧Below w.heap.size w w'∧Seen l F n0 s t st:=by
 have hu24:=Try.underlying24;have hu115:=Try.underlying104;have hu118:=Try.underlying107;have HR:=Ya hR;have HC2:=Ya hc2;have HC3:=Ya hc3;have H2:=Ya h2;have H3:=Ya h3;have H4:=Ya h4;have HTS:=Ya hts;have hn50:n0≤50:=hR.fifty;have hn0:0<n0:=hR.pos;obtain⟨ad4,eA4⟩: ∃ ad,A4=some ad:=by
  obtain⟨ad,c,h_,_⟩:=Kd.C_get H4.out [] (0:Int) (by omega) (by omega);exact⟨ad,h_⟩
 subst eA4;have hmk:=made_steps n0 hn50;have HB:=Ya (Yo w.heap.size w);clear hR h2 h3 h4 hc2 hc3 hts;go_enter Try.func91,Try.ntmps91;go_upto_region 1 with (first|((with_reducible refine gate_dst (N:=3) rfl ?_);refine Yz ?hg (N:=3) ?hd (cs:= #[.int .i64 n0, .bool Zb, .slice A2 l.length c2, .slice A3 F.length c3, .slice (some ad4) n0 c4]) (t:=107) ?hr ?_;(case hd=>rfl);(case hg=>rfl);(case hr=>first|(go_simp;done)|(go_simp;rfl));intro g3 hg w5 Zf hb;have n0_:=Ya (Yk HB.out hb);have B3:=Ya Zf;clear HB;have HB:=n0_;have GE3:Aside0 (w.heap.size≤g3):=⟨Nat.le_of_eq hg.symm⟩;clear n0_ hb Zf hg)|fail)
 have hc0:w5.cell? ⟨g3,0,none⟩=some (.int .i64 n0):=(Yc B3.out 0).trans rfl;go_step3;go_upto_region 1 with fail
 go_cut [6,7] (fun v6 v7 wx=> ∃ gd gb:Nat,v6= .slice (some ⟨gd,0,none⟩) n0 n0∧v7= .slice (some ⟨gb,0,none⟩) n0 n0∧Aside0 (IsI wx gd (List.replicate n0 (-1)))∧Aside0 (IsS wx gb (List.replicate n0 z79))∧Aside0 (w5.heap.size≤gd∧w5.heap.size≤gb∧gd≠gb)∧Aside0 (Below w5.heap.size w5 wx))
 case first=>
  go_region_held3 (fun w'=>w'.cell? ⟨g3,0,none⟩=some (.int .i64 n0)) (first|(exact pw_cell_below (below_drew (Yo _ _)) (by assumption))|(exact pw_cell_below (Ye (Yo _ _) _) (by assumption))|(exact pw_cell_below hbr (by assumption))|go_keep)
   (first|(go_at_call 99;refine(repeat_core _ 1 n0 (-1) _ (by simp[go_sem]) hn0 hn50).mono ?_;rintro e_ w6 ⟨rfl,hrep,hbr⟩))
  ·go_wp2_with fail
   go_meet;have hbb:=Yk (below_drew (Ye (Yo w5.heap.size w5) _)) hbr;have hsz:=hbr.size;have e1:(w5.alloc (.cells #[.int .i64 (-1)] 3)).drew.heap.size=w5.heap.size+1:=by simp
   rw[e1] at hrep hsz;exact⟨w5.heap.size+1,w6.heap.size,rfl,rfl,⟨IsI.below hrep (Ye (Yo _ _) _)⟩,⟨heap_alloc_new w6 _⟩,⟨Nat.le_succ _,Nat.le_of_succ_le hsz,Nat.ne_of_lt (blk_lt hrep)⟩,⟨Ye hbb _⟩⟩
  ·go_wp2_with fail
   go_meet;have hbb:=Yk (below_drew (Ye (Ye (Yo w5.heap.size w5) _) _)) hbr;have hsz:=hbr.size;have e1:((w5.alloc (.cells #[.int .i64 (-1)] 3)).alloc (.cells (stz n0).toArray 79)).drew.heap.size=w5.heap.size+2:=by simp
   rw[e1] at hrep hsz;have hst:IsS w6 (w5.heap.size+1) (List.replicate n0 z79):=by
    refine IsS.below (w:=((w5.alloc (.cells #[.int .i64 (-1)] 3)).alloc (.cells (stz n0).toArray 79)).drew) ?_ hbr;have h_:=heap_alloc_new (w5.alloc (.cells #[.int .i64 (-1)] 3)) (.cells (stz n0).toArray 79);have e2:(w5.alloc (.cells #[.int .i64 (-1)] 3)).heap.size=w5.heap.size+1:=by simp
    rw[e2] at h_;exact h_
   exact⟨w5.heap.size+2,w5.heap.size+1,rfl,rfl,⟨hrep⟩,⟨hst⟩,⟨by omega,by omega,by omega⟩,⟨hbb⟩⟩
  ·go_wp2_with fail
   go_meet;have hbb:=Yk (below_drew (Ye (Ye (Yo w5.heap.size w5) _) _)) hbr;have hsz:=hbr.size;have e1:((w5.alloc (.cells (stz n0).toArray 79)).alloc (.cells #[.int .i64 (-1)] 3)).drew.heap.size=w5.heap.size+2:=by simp
   rw[e1] at hrep hsz;have hst:IsS w6 w5.heap.size (List.replicate n0 z79):=by
    refine IsS.below (w:=((w5.alloc (.cells (stz n0).toArray 79)).alloc (.cells #[.int .i64 (-1)] 3)).drew) ?_ hbr;exact IsS.below (w:=w5.alloc (.cells (stz n0).toArray 79)) (heap_alloc_new w5 _) (below_drew (Ye (Yo _ _) _))
   exact⟨w5.heap.size+2,w5.heap.size,rfl,rfl,⟨hrep⟩,⟨hst⟩,⟨by omega,by omega,by omega⟩,⟨hbb⟩⟩
 case rest=>
  obtain⟨gd,gb,rfl,rfl,HD,HS,HG,HBC⟩:=hcut;have m0_:=Ya (Yk HB.out HBC.out);have m1_:=Ya (Yn B3.out HBC.out);clear hmk hc0;have GD:Aside0 (g3≠gd∧g3≠gb∧gd≠gb∧w.heap.size≤gd∧w.heap.size≤gb):=⟨by have h1:=blk_lt B3.out;have h2:=HG.out;have h3:=HB.out.size;omega⟩;clear HB B3 HG HBC;have HB:=m0_;have B3:=m1_;clear m0_ m1_;have hd0:wc.cell? ⟨gd,s,none⟩=some (.int .i64 ((List.replicate n0 (-1:Int)).getD s 0)):=HD.out.cell (by simpa using hs);have hf0:=HD.out.free s;have ps:(0:Int)≤(s:Int):=by omega
  have qs:(s:Int)<(n0:Int):=by omega
  have hc0:wc.cell? ⟨g3,0,none⟩=some (.int .i64 n0):=(Yc B3.out 0).trans rfl;have hn3:g3≠gd:=GD.out.1;go_wp2_with fail;have m0_:Aside0 (IsI (wc.setCell ⟨gd,s,none⟩ (.int .i64 0)) gd (dOf n0 [⟨s,z79,0⟩])):=⟨by rw[dOf_one];exact HD.out.put s 0⟩;have m1_:Aside0 (IsS (wc.setCell ⟨gd,s,none⟩ (.int .i64 0)) gb (bOf z79 n0 [⟨s,z79,0⟩])):=⟨by rw[bOf_one];exact HS.out.far (by have:=GD.out;show gb≠gd;omega) _⟩;have m2_:Aside0 ((wc.setCell ⟨gd,s,none⟩ (.int .i64 0)).heap[g3]? =some (.cells #[.int .i64 n0, .bool Zb, .slice A2 l.length c2, .slice A3 F.length c3, .slice (some ad4) n0 c4] 107 (0,0))):=⟨blk_far B3.out (p:=⟨gd,s,none⟩) hn3 _⟩;have m3_:=Ya (Yh (j:=s) (v:= .int .i64 0) HB.out GD.out.2.2.2.1);clear HD HS B3 HB hd0 hf0 hc0 hn3;have HD:=m0_;have HS:=m1_;have B3:=m2_;have HB:=m3_;clear m0_ m1_ m2_ m3_;generalize wc.setCell ⟨gd,s,none⟩ (.int .i64 0)=w8 at *;go_wp2_with (first|(go_at_call 100;refine(que_new n0 _ hn50).mono ?_;rintro e_ w9 ⟨gq,rfl,hge,hq,hbq⟩;have m0_:=Ya (HD.out.below hbq);have m1_:=Ya (HS.out.below hbq);have m2_:=Ya (Yn B3.out hbq);have m3_:=Ya (Yk HB.out hbq);have GQ:Aside0 (w.heap.size≤gq∧gq≠gd∧gq≠gb∧gq≠g3):=⟨by have h1:=HD.out.lt;have h2:=HS.out.lt;have h3:=blk_lt B3.out;have h4:=HB.out.size;omega⟩;have HQ:=Ya hq;clear HD HS B3 HB hq hbq hge;have HD:=m0_;have HS:=m1_;have B3:=m2_;have HB:=m3_;clear m0_ m1_ m2_ m3_)|(go_at_call 101;refine(que_put_grow gq none [] 0 n0 (s:Int) _ HQ.out hn0).mono ?_;rintro e_ w10 ⟨rfl,bq,R1,hbq,hq,hql,hk⟩;have HM:Aside0 (Sm n0 Zb A2 c2 l A3 c3 F (some ad4) c4 g3 gd gb gq w [⟨s,z79,0⟩] 0 w10):=⟨⟨HD.out.kept hk (Ne.symm GQ.out.2.1),HS.out.kept hk (Ne.symm GQ.out.2.2.1),hk.blk B3.out (Ne.symm GQ.out.2.2.2),⟨_,R1,0,hq,hql,fun k hk2=>(by rcases hk2 with rfl|⟨a,ha,rfl⟩;exact GQ.out;cases ha;have h1:=HD.out.lt;have h2:=HS.out.lt;have h3:=blk_lt B3.out;have h4:=HB.out.size;show w.heap.size≤bq∧bq≠gd∧bq≠gb∧bq≠g3;omega)⟩,hk.toBelow HB.out HB.out.size (fun b hb=>by have:=GQ.out;omega)⟩⟩;clear HD HS B3 HB HQ hq hql hk hbq)|fail);go_step3;go_wp2_with fail;go_loopw [10] (fun v10 w'=> ∃ m,SR n0 Zb A2 c2 l A3 c3 F (some ad4) c4 g3 gd gb gq s t w w' m) (fun _ w'=>least (SR n0 Zb A2 c2 l A3 c3 F (some ad4) c4 g3 gd gb gq s t w w'))
  case atStart=>exact⟨_,_,_,rfl,lp_start hs HTS.out,HM.out⟩
  case round=>
   clear HM;have hsp:=least_spec hrel;obtain⟨M,hM⟩: ∃ M_,M_=least (SR n0 Zb A2 c2 l A3 c3 F (some ad4) c4 g3 gd gb gq s t w wr):=⟨_,rfl⟩;rw[← hM] at hsp;have HLE:=Ya hM;clear hM hrel;obtain⟨st,i,hmi,hlp,hsm⟩:=hsp;have HMI:=Ya hmi;have HLP:=Ya hlp;have HSM:=Ya hsm;clear hmi hlp hsm;have hstn:=HLP.out.len HR.out hs;have hile:=HLP.out.ile;obtain⟨A,R,fr,hq,hql,hsep⟩:=HSM.out.que;by_cases hlt:i<st.length
   ·obtain⟨x,hx⟩: ∃ x,st[i]? =some x:=⟨_,List.getElem?_eq_getElem hlt⟩
    obtain⟨k,hk⟩: ∃ k,st.length - i=k+1:=⟨st.length - i - 1,by omega⟩;rw[hk] at hq hql;have hk2:st.length - (i+1)=k:=by omega
    obtain⟨bq,eA⟩: ∃ b,A=some ⟨b,0,none⟩:=by
     rcases hq.ring with ⟨_,h1⟩|⟨b,h1,_⟩
     ·have:=hq.szr;rw[h1] at this;simp at this
     ·exact⟨b,h1⟩
    subst eA;have hfr:fr<R.length:=by
     rcases hq.frr with h1|⟨_,h1⟩
     ·exact h1
     ·have:=hq.szr;rw[h1] at this;simp at this
    rw[qL_take R fr k hfr,qOf_cons hx] at hql;injection hql with hv hql
    have hxn:x.v<n0:=fds_lt HLP.out.upto.fds (esP_to HR.out) hs _ (List.mem_map_of_mem (List.mem_of_getElem? hx));have HTK:=Ya (by have h_:=que_take gq bq R fr k n0 wr hq;rw[hv] at h_;exact h_);have HQL:=Ya hql;have HSEP:=Ya hsep;have HX:=Ya hx;have HQ:=Ya hq;have HK2:=Ya hk2;obtain⟨ad,cv0,had,_,hKv,hcell⟩:=Kd.C_get H4.out [] (x.v:Int) (by omega) (by omega);cases had;have hrow:(rowsAt l n0 n0).getD (x.v:Int).toNat []=stL l x.v l.length:=by rw[Int.toNat_natCast,List.getD_eq_getElem?_getD,rowsAt_get l n0 n0 _ hxn,Yx hxn];rfl
    rw[hrow] at hKv;obtain⟨Av,cv,rfl,hlv,hCv⟩:=hKv;have hrw:=hcell 0 _ rfl;have e0:(x.v:Int).toNat * (Kd.slice 79 k79).sz+0=x.v:=by rw[Int.toNat_natCast];show x.v * 1+0=x.v;omega
    rw[e0] at hrw;have HCV:=Ya hCv;have HRC:=Ya hrw;have px:(0:Int)≤(x.v:Int):=by omega
    have qx:(x.v:Int)<(n0:Int):=by omega
    obtain⟨v,hvx⟩: ∃ v_,v_=x.v:=⟨_,rfl⟩;have hlen4:(stL l x.v l.length).length≤400:=by have:=stL_len l x.v l.length;have:=HR.out.arcs;omega
    clear hq hql hsep hx hv hk hk2 hcell hrow hlv hCv hrw e0;have e1:decide ((0:Int)<(k:Int)+1)=true:=Yv (by omega);go_wp2_with (first|(go_at_call 102;refine(que_len gq _ R fr (k+1) n0 _ HQ.out).mono ?_;rintro e_ w_ ⟨rfl,hw_⟩;subst hw_)|(go_at_call 103;refine HTK.out.mono ?_;rintro e_ w11 ⟨rfl,hq2,hk11⟩;have HM:Aside0 (Sm n0 Zb A2 c2 l A3 c3 F (some ad4) c4 g3 gd gb gq w st (i+1) w11):=⟨⟨HSM.out.D.kept hk11 (fun e=>(HSEP.out gq (.inl rfl)).2.1 e.symm),HSM.out.B.kept hk11 (fun e=>(HSEP.out gq (.inl rfl)).2.2.1 e.symm),hk11.blk HSM.out.b3 (fun e=>(HSEP.out gq (.inl rfl)).2.2.2 e.symm),⟨_,R,_,by rw[HK2.out];exact hq2,by rw[HK2.out];exact HQL.out,HSEP.out⟩,hk11.toBelow HSM.out.below HSM.out.below.size (fun b hb=>by have:=HSEP.out gq (.inl rfl);omega)⟩⟩;clear hq2 hk11;have hc4:w11.cell? ⟨g3,4,none⟩=some (.slice (some ad4) n0 c4):=(Yc HM.out.b3 4).trans rfl;have hcr:=pw_cell_below HM.out.below HRC.out)|fail);clear hc4 hcr HRC;obtain⟨LN,hLN⟩: ∃ n_,n_=(stL l x.v l.length).length:=⟨_,rfl⟩;rw[← hLN] at hlen4 ⊢;have HLN:=Ya hLN;clear hLN;obtain⟨w2,hw2⟩: ∃ x_:World,x_=w11:=⟨_,rfl⟩;subst hw2;go_loopw [54] (fun v54 w'=> ∃ (j:Nat) (stj:List (Fd S79)),j≤LN∧v54= .int .i64 j∧Aside0 (Li l F n0 s t x (proc (toP l) (esP l F) st x) stj i j)∧Aside0 (Sm n0 Zb A2 c2 l A3 c3 F (some ad4) c4 g3 gd gb gq w stj (i+1) w')) (fun v54 _=>LN - (intOf v54).toNat)
    case atStart=>exact⟨0,st,Nat.zero_le _,rfl,⟨HLP.out.inner HX.out⟩,HM⟩
    case round=>
     clear HM;obtain⟨j,stj,hj,rfl,HLI,HSJ⟩:=hrel;by_cases hltj:j<LN
     ·have c55:decide ((j:Int)<(LN:Int))=true:=Yv (by omega)
      have pj:(0:Int)≤(j:Int):=by omega
      have qj:(j:Int)<(LN:Int):=by omega
      obtain⟨adj,eadj,hs0,hs1⟩:=at_T79 (Yt HCV.out HSJ.out.below) (j:Int) pj (by rw[← HLN.out];exact qj);cases eadj;simp only[Int.toNat_natCast] at hs0 hs1;obtain⟨e,hee⟩: ∃ e_,e_=rd_T79 (stL l x.v l.length) (j:Int):=⟨_,rfl⟩;rw[← hee] at hs0 hs1;have hej:(stL l x.v l.length)[j]? =some e:=by
       rw[hee];unfold rd_T79;rw[Int.toNat_natCast,List.getD_eq_getElem?_getD,List.getElem?_eq_getElem (by rw[← HLN.out];exact hltj)];rfl
      have hso:StepOf l e:=stL_of (List.mem_of_getElem? hej);have HEJ:=Ya hej;have HSO:=Ya hso;clear hee hej hso;obtain⟨u,hu⟩: ∃ u_:Nat,stTo l e=(u_:Int):=⟨(stTo l e).toNat,by have:=stTo_in HR.out HSO.out;omega⟩;obtain⟨rm,hrm⟩: ∃ d_,d_=stRoom l F e:=⟨_,rfl⟩;obtain⟨y,hy⟩: ∃ y_,y_=(dOf n0 stj).getD u 0:=⟨_,rfl⟩;have hun:u<n0:=by have:=stTo_in HR.out HSO.out;omega
      have hup:toP l e=u:=by unfold toP;rw[hu,Int.toNat_natCast]
      have HTO:=Ya (to_f HR.out HSO.out (n0:Int) Zb);have HRM:=Ya (room_f HR.out HSO.out (n0:Int) Zb);rw[hu] at HTO;rw[← hrm] at HRM;have hrm0:0≤rm:=by rw[hrm];exact(stRoom_in HR.out HSO.out).1
      have HY:=Ya hy;have HUP:=Ya hup;have HRMV:=Ya hrm;have hneg:=dOf_neg stj 0 hun;rw[← hy] at hneg;clear hu hrm hy hup;have pu:(0:Int)≤(u:Int):=by omega
      have qu:(u:Int)<(n0:Int):=by omega
      by_cases hmem:u∈nodes stj
      ·have hy0: ¬ y<0:=fun h=>hneg.1 h hmem
       have ey:decide (0≤y)=true:=Yv (by omega);have HNX:Aside0 (Li l F n0 s t x (proc (toP l) (esP l F) st x) stj i (j+1)):=⟨HLI.out.skip HEJ.out (.inr (by rw[HUP.out];exact hmem))⟩;clear hneg hmem hy0;go_wp2_with (first|((with_reducible refine gate_dst (N:=13) rfl ?_);refine Yz ?hg (N:=13) ?hd (cs:= #[.int .i64 0, .bool false]) (t:=79) ?hr ?_;(case hd=>rfl);(case hg=>rfl);(case hr=>first|(go_simp;done)|(go_simp;rfl));intro g8 hg w6 Zf hb;have GE8:Aside0 (wr.heap.size≤g8):=⟨Nat.le_of_eq hg.symm⟩;have B8:=Ya Zf;have HBL:=Ya hb;clear Zf hg hb;have hcz0:w6.cell? ⟨g8,0,none⟩=some (.int .i64 0):=(Yc B8.out 0).trans rfl;have hcz1:w6.cell? ⟨g8,1,none⟩=some (.bool false):=(Yc B8.out 1).trans rfl;have hfz0:=Yf B8.out 0;have hfz1:=Yf B8.out 1)|((with_reducible refine gate_store (t:=79) (p:=13) rfl ?_);refine store_event (t:=79) (p:=13) (v:= ?vo) (w1:=((w6.setCell ⟨g8,0,none⟩ (.int .i64 e.f0)).setCell ⟨g8,1,none⟩ (.bool e.f1))) ?hg ?ho ?hn ?hr ?_;(case ho=>rfl);(case hg=>rfl);(case hn=>rfl);(case hr=>first|(go_simp;done)|(go_simp;rfl));intro w8 hw;have m0_:Aside0 (w8.heap[g8]? =some (.cells #[.int .i64 e.f0, .bool e.f1] 79 (0,0))):=⟨by rw[hw];refine YA (cs:= #[.int .i64 e.f0, .bool false]) ?_ 1 _ rfl;refine YA (cs:= #[.int .i64 0, .bool false]) ?_ 0 _ rfl;exact B8.out⟩;have m1_:Aside0 (Below wr.heap.size wr w8):=⟨by rw[hw];exact Yh (Yh HBL.out GE8.out) GE8.out⟩;clear hw B8 HBL hcz0 hcz1 hfz0 hfz1 hs0 hs1;have B8:=m0_;clear m0_;have m0_:=Ya (HSJ.out.step m1_.out);have HG8:Aside0 (g8≠gd∧g8≠gb∧g8≠g3):=⟨by have h1:=HSJ.out.D.lt;have h2:=HSJ.out.B.lt;have h3:=blk_lt HSJ.out.b3;have h4:=GE8.out;omega⟩;clear HSJ m1_;have HSJ:=m0_;clear m0_;have c0:w8.cell? ⟨g3,0,none⟩=some (.int .i64 n0):=(Yc HSJ.out.b3 0).trans rfl;have c1:w8.cell? ⟨g3,1,none⟩=some (.bool Zb):=(Yc HSJ.out.b3 1).trans rfl;have c2_:w8.cell? ⟨g3,2,none⟩=some (.slice A2 l.length c2):=(Yc HSJ.out.b3 2).trans rfl;have c3_:w8.cell? ⟨g3,3,none⟩=some (.slice A3 F.length c3):=(Yc HSJ.out.b3 3).trans rfl;have s0:w8.cell? ⟨g8,0,none⟩=some (.int .i64 e.f0):=(Yc B8.out 0).trans rfl;have s1:w8.cell? ⟨g8,1,none⟩=some (.bool e.f1):=(Yc B8.out 1).trans rfl;have hcu:w8.cell? ⟨gd,u,none⟩=some (.int .i64 y):=(by rw[HY.out];exact HSJ.out.D.cell (by rw[dOf_len];exact hun)))|(go_at_call 93;refine(static_Flowing_To.calls (n0:Int) Zb A2 c2 l A3 c3 F e.f0 e.f1 (u:Int) _ (Yt H2.out HSJ.out.below) HC2.out (Yt H3.out HSJ.out.below) HC3.out HTO.out).mono ?_;rintro e_ w9 ⟨rfl,hb9⟩;have m0_:=Ya (HSJ.out.step hb9);have m1_:=Ya (Yn B8.out hb9);clear HSJ B8 hb9 c0 c1 c2_ c3_ s0 s1 hcu;have HSJ:=m0_;have B8:=m1_;clear m0_ m1_;have c0:w9.cell? ⟨g3,0,none⟩=some (.int .i64 n0):=(Yc HSJ.out.b3 0).trans rfl;have c1:w9.cell? ⟨g3,1,none⟩=some (.bool Zb):=(Yc HSJ.out.b3 1).trans rfl;have c2_:w9.cell? ⟨g3,2,none⟩=some (.slice A2 l.length c2):=(Yc HSJ.out.b3 2).trans rfl;have c3_:w9.cell? ⟨g3,3,none⟩=some (.slice A3 F.length c3):=(Yc HSJ.out.b3 3).trans rfl;have s0:w9.cell? ⟨g8,0,none⟩=some (.int .i64 e.f0):=(Yc B8.out 0).trans rfl;have s1:w9.cell? ⟨g8,1,none⟩=some (.bool e.f1):=(Yc B8.out 1).trans rfl;have hcu:w9.cell? ⟨gd,u,none⟩=some (.int .i64 y):=(by rw[HY.out];exact HSJ.out.D.cell (by rw[dOf_len];exact hun)))|fail);go_roundw
       case rel=>exact⟨j+1,stj,by omega,by go_num,HNX,HSJ⟩
       case measure=>simp[intOf]<;>omega
      ·have hy0:y<0:=hneg.2 hmem
       have ey:decide (0≤y)=false:=Yw (by omega);have HMEM:Aside0 (toP l e ∉ nodes stj):=⟨by rw[HUP.out];exact hmem⟩;clear hneg hmem hy0;by_cases hr0:rm=0
       ·have er:(rm == 0)=true:=beq_iff_eq.2 hr0
        have HNX:Aside0 (Li l F n0 s t x (proc (toP l) (esP l F) st x) stj i (j+1)):=⟨HLI.out.skip HEJ.out (.inl (by rw[← HRMV.out];omega))⟩;clear hr0;go_wp2_with (first|((with_reducible refine gate_dst (N:=13) rfl ?_);refine Yz ?hg (N:=13) ?hd (cs:= #[.int .i64 0, .bool false]) (t:=79) ?hr ?_;(case hd=>rfl);(case hg=>rfl);(case hr=>first|(go_simp;done)|(go_simp;rfl));intro g8 hg w6 Zf hb;have GE8:Aside0 (wr.heap.size≤g8):=⟨Nat.le_of_eq hg.symm⟩;have B8:=Ya Zf;have HBL:=Ya hb;clear Zf hg hb;have hcz0:w6.cell? ⟨g8,0,none⟩=some (.int .i64 0):=(Yc B8.out 0).trans rfl;have hcz1:w6.cell? ⟨g8,1,none⟩=some (.bool false):=(Yc B8.out 1).trans rfl;have hfz0:=Yf B8.out 0;have hfz1:=Yf B8.out 1)|((with_reducible refine gate_store (t:=79) (p:=13) rfl ?_);refine store_event (t:=79) (p:=13) (v:= ?vo) (w1:=((w6.setCell ⟨g8,0,none⟩ (.int .i64 e.f0)).setCell ⟨g8,1,none⟩ (.bool e.f1))) ?hg ?ho ?hn ?hr ?_;(case ho=>rfl);(case hg=>rfl);(case hn=>rfl);(case hr=>first|(go_simp;done)|(go_simp;rfl));intro w8 hw;have m0_:Aside0 (w8.heap[g8]? =some (.cells #[.int .i64 e.f0, .bool e.f1] 79 (0,0))):=⟨by rw[hw];refine YA (cs:= #[.int .i64 e.f0, .bool false]) ?_ 1 _ rfl;refine YA (cs:= #[.int .i64 0, .bool false]) ?_ 0 _ rfl;exact B8.out⟩;have m1_:Aside0 (Below wr.heap.size wr w8):=⟨by rw[hw];exact Yh (Yh HBL.out GE8.out) GE8.out⟩;clear hw B8 HBL hcz0 hcz1 hfz0 hfz1 hs0 hs1;have B8:=m0_;clear m0_;have m0_:=Ya (HSJ.out.step m1_.out);have HG8:Aside0 (g8≠gd∧g8≠gb∧g8≠g3):=⟨by have h1:=HSJ.out.D.lt;have h2:=HSJ.out.B.lt;have h3:=blk_lt HSJ.out.b3;have h4:=GE8.out;omega⟩;clear HSJ m1_;have HSJ:=m0_;clear m0_;have c0:w8.cell? ⟨g3,0,none⟩=some (.int .i64 n0):=(Yc HSJ.out.b3 0).trans rfl;have c1:w8.cell? ⟨g3,1,none⟩=some (.bool Zb):=(Yc HSJ.out.b3 1).trans rfl;have c2_:w8.cell? ⟨g3,2,none⟩=some (.slice A2 l.length c2):=(Yc HSJ.out.b3 2).trans rfl;have c3_:w8.cell? ⟨g3,3,none⟩=some (.slice A3 F.length c3):=(Yc HSJ.out.b3 3).trans rfl;have s0:w8.cell? ⟨g8,0,none⟩=some (.int .i64 e.f0):=(Yc B8.out 0).trans rfl;have s1:w8.cell? ⟨g8,1,none⟩=some (.bool e.f1):=(Yc B8.out 1).trans rfl;have hcu:w8.cell? ⟨gd,u,none⟩=some (.int .i64 y):=(by rw[HY.out];exact HSJ.out.D.cell (by rw[dOf_len];exact hun)))|(go_at_call 93;refine(static_Flowing_To.calls (n0:Int) Zb A2 c2 l A3 c3 F e.f0 e.f1 (u:Int) _ (Yt H2.out HSJ.out.below) HC2.out (Yt H3.out HSJ.out.below) HC3.out HTO.out).mono ?_;rintro e_ w9 ⟨rfl,hb9⟩;have m0_:=Ya (HSJ.out.step hb9);have m1_:=Ya (Yn B8.out hb9);clear HSJ B8 hb9 c0 c1 c2_ c3_ s0 s1 hcu;have HSJ:=m0_;have B8:=m1_;clear m0_ m1_;have c0:w9.cell? ⟨g3,0,none⟩=some (.int .i64 n0):=(Yc HSJ.out.b3 0).trans rfl;have c1:w9.cell? ⟨g3,1,none⟩=some (.bool Zb):=(Yc HSJ.out.b3 1).trans rfl;have c2_:w9.cell? ⟨g3,2,none⟩=some (.slice A2 l.length c2):=(Yc HSJ.out.b3 2).trans rfl;have c3_:w9.cell? ⟨g3,3,none⟩=some (.slice A3 F.length c3):=(Yc HSJ.out.b3 3).trans rfl;have s0:w9.cell? ⟨g8,0,none⟩=some (.int .i64 e.f0):=(Yc B8.out 0).trans rfl;have s1:w9.cell? ⟨g8,1,none⟩=some (.bool e.f1):=(Yc B8.out 1).trans rfl;have hcu:w9.cell? ⟨gd,u,none⟩=some (.int .i64 y):=(by rw[HY.out];exact HSJ.out.D.cell (by rw[dOf_len];exact hun)))|(go_at_call 89;refine(static_Flowing_Room.calls (n0:Int) Zb A2 c2 l A3 c3 F e.f0 e.f1 rm _ (Yt H2.out HSJ.out.below) HC2.out (Yt H3.out HSJ.out.below) HC3.out HRM.out).mono ?_;rintro e_ w10 ⟨rfl,hb9⟩;have m0_:=Ya (HSJ.out.step hb9);have m1_:=Ya (Yn B8.out hb9);clear HSJ B8 hb9 c0 c1 c2_ c3_ s0 s1 hcu;have HSJ:=m0_;have B8:=m1_;clear m0_ m1_;have c0:w10.cell? ⟨g3,0,none⟩=some (.int .i64 n0):=(Yc HSJ.out.b3 0).trans rfl;have c1:w10.cell? ⟨g3,1,none⟩=some (.bool Zb):=(Yc HSJ.out.b3 1).trans rfl;have c2_:w10.cell? ⟨g3,2,none⟩=some (.slice A2 l.length c2):=(Yc HSJ.out.b3 2).trans rfl;have c3_:w10.cell? ⟨g3,3,none⟩=some (.slice A3 F.length c3):=(Yc HSJ.out.b3 3).trans rfl;have s0:w10.cell? ⟨g8,0,none⟩=some (.int .i64 e.f0):=(Yc B8.out 0).trans rfl;have s1:w10.cell? ⟨g8,1,none⟩=some (.bool e.f1):=(Yc B8.out 1).trans rfl;have hcu:w10.cell? ⟨gd,u,none⟩=some (.int .i64 y):=(by rw[HY.out];exact HSJ.out.D.cell (by rw[dOf_len];exact hun)))|fail);go_roundw
        case rel=>exact⟨j+1,stj,by omega,by go_num,HNX,HSJ⟩
        case measure=>simp[intOf]<;>omega
       ·have er:(rm == 0)=false:=beq_eq_false_iff_ne.2 hr0
        have HRP:Aside0 (0<stRoom l F e):=⟨by rw[← HRMV.out];omega⟩;clear hr0;go_wp2_with (first|((with_reducible refine gate_dst (N:=13) rfl ?_);refine Yz ?hg (N:=13) ?hd (cs:= #[.int .i64 0, .bool false]) (t:=79) ?hr ?_;(case hd=>rfl);(case hg=>rfl);(case hr=>first|(go_simp;done)|(go_simp;rfl));intro g8 hg w6 Zf hb;have GE8:Aside0 (wr.heap.size≤g8):=⟨Nat.le_of_eq hg.symm⟩;have B8:=Ya Zf;have HBL:=Ya hb;clear Zf hg hb;have hcz0:w6.cell? ⟨g8,0,none⟩=some (.int .i64 0):=(Yc B8.out 0).trans rfl;have hcz1:w6.cell? ⟨g8,1,none⟩=some (.bool false):=(Yc B8.out 1).trans rfl;have hfz0:=Yf B8.out 0;have hfz1:=Yf B8.out 1)|((with_reducible refine gate_store (t:=79) (p:=13) rfl ?_);refine store_event (t:=79) (p:=13) (v:= ?vo) (w1:=((w6.setCell ⟨g8,0,none⟩ (.int .i64 e.f0)).setCell ⟨g8,1,none⟩ (.bool e.f1))) ?hg ?ho ?hn ?hr ?_;(case ho=>rfl);(case hg=>rfl);(case hn=>rfl);(case hr=>first|(go_simp;done)|(go_simp;rfl));intro w8 hw;have m0_:Aside0 (w8.heap[g8]? =some (.cells #[.int .i64 e.f0, .bool e.f1] 79 (0,0))):=⟨by rw[hw];refine YA (cs:= #[.int .i64 e.f0, .bool false]) ?_ 1 _ rfl;refine YA (cs:= #[.int .i64 0, .bool false]) ?_ 0 _ rfl;exact B8.out⟩;have m1_:Aside0 (Below wr.heap.size wr w8):=⟨by rw[hw];exact Yh (Yh HBL.out GE8.out) GE8.out⟩;clear hw B8 HBL hcz0 hcz1 hfz0 hfz1 hs0 hs1;have B8:=m0_;clear m0_;have m0_:=Ya (HSJ.out.step m1_.out);have HG8:Aside0 (g8≠gd∧g8≠gb∧g8≠g3):=⟨by have h1:=HSJ.out.D.lt;have h2:=HSJ.out.B.lt;have h3:=blk_lt HSJ.out.b3;have h4:=GE8.out;omega⟩;clear HSJ m1_;have HSJ:=m0_;clear m0_;have c0:w8.cell? ⟨g3,0,none⟩=some (.int .i64 n0):=(Yc HSJ.out.b3 0).trans rfl;have c1:w8.cell? ⟨g3,1,none⟩=some (.bool Zb):=(Yc HSJ.out.b3 1).trans rfl;have c2_:w8.cell? ⟨g3,2,none⟩=some (.slice A2 l.length c2):=(Yc HSJ.out.b3 2).trans rfl;have c3_:w8.cell? ⟨g3,3,none⟩=some (.slice A3 F.length c3):=(Yc HSJ.out.b3 3).trans rfl;have s0:w8.cell? ⟨g8,0,none⟩=some (.int .i64 e.f0):=(Yc B8.out 0).trans rfl;have s1:w8.cell? ⟨g8,1,none⟩=some (.bool e.f1):=(Yc B8.out 1).trans rfl;have hcu:w8.cell? ⟨gd,u,none⟩=some (.int .i64 y):=(by rw[HY.out];exact HSJ.out.D.cell (by rw[dOf_len];exact hun)))|(go_at_call 93;refine(static_Flowing_To.calls (n0:Int) Zb A2 c2 l A3 c3 F e.f0 e.f1 (u:Int) _ (Yt H2.out HSJ.out.below) HC2.out (Yt H3.out HSJ.out.below) HC3.out HTO.out).mono ?_;rintro e_ w9 ⟨rfl,hb9⟩;have m0_:=Ya (HSJ.out.step hb9);have m1_:=Ya (Yn B8.out hb9);clear HSJ B8 hb9 c0 c1 c2_ c3_ s0 s1 hcu;have HSJ:=m0_;have B8:=m1_;clear m0_ m1_;have c0:w9.cell? ⟨g3,0,none⟩=some (.int .i64 n0):=(Yc HSJ.out.b3 0).trans rfl;have c1:w9.cell? ⟨g3,1,none⟩=some (.bool Zb):=(Yc HSJ.out.b3 1).trans rfl;have c2_:w9.cell? ⟨g3,2,none⟩=some (.slice A2 l.length c2):=(Yc HSJ.out.b3 2).trans rfl;have c3_:w9.cell? ⟨g3,3,none⟩=some (.slice A3 F.length c3):=(Yc HSJ.out.b3 3).trans rfl;have s0:w9.cell? ⟨g8,0,none⟩=some (.int .i64 e.f0):=(Yc B8.out 0).trans rfl;have s1:w9.cell? ⟨g8,1,none⟩=some (.bool e.f1):=(Yc B8.out 1).trans rfl;have hcu:w9.cell? ⟨gd,u,none⟩=some (.int .i64 y):=(by rw[HY.out];exact HSJ.out.D.cell (by rw[dOf_len];exact hun)))|(go_at_call 89;refine(static_Flowing_Room.calls (n0:Int) Zb A2 c2 l A3 c3 F e.f0 e.f1 rm _ (Yt H2.out HSJ.out.below) HC2.out (Yt H3.out HSJ.out.below) HC3.out HRM.out).mono ?_;rintro e_ w10 ⟨rfl,hb9⟩;have m0_:=Ya (HSJ.out.step hb9);have m1_:=Ya (Yn B8.out hb9);clear HSJ B8 hb9 c0 c1 c2_ c3_ s0 s1 hcu;have HSJ:=m0_;have B8:=m1_;clear m0_ m1_;have c0:w10.cell? ⟨g3,0,none⟩=some (.int .i64 n0):=(Yc HSJ.out.b3 0).trans rfl;have c1:w10.cell? ⟨g3,1,none⟩=some (.bool Zb):=(Yc HSJ.out.b3 1).trans rfl;have c2_:w10.cell? ⟨g3,2,none⟩=some (.slice A2 l.length c2):=(Yc HSJ.out.b3 2).trans rfl;have c3_:w10.cell? ⟨g3,3,none⟩=some (.slice A3 F.length c3):=(Yc HSJ.out.b3 3).trans rfl;have s0:w10.cell? ⟨g8,0,none⟩=some (.int .i64 e.f0):=(Yc B8.out 0).trans rfl;have s1:w10.cell? ⟨g8,1,none⟩=some (.bool e.f1):=(Yc B8.out 1).trans rfl;have hcu:w10.cell? ⟨gd,u,none⟩=some (.int .i64 y):=(by rw[HY.out];exact HSJ.out.D.cell (by rw[dOf_len];exact hun)))|fail);obtain⟨lv,hlv⟩: ∃ n_,n_=x.lv:=⟨_,rfl⟩;have hxm:x∈stj:=List.mem_of_getElem? HLI.out.at_;have hlv50:x.lv<50:=by have:=lv_lt HLI.out.fds hxm;have:=fds_len HLI.out.fds (esP_to HR.out) hs;omega
        have hcv:w10.cell? ⟨gd,x.v,none⟩=some (.int .i64 (lv:Int)):=by
         rw[hlv, ← dOf_mem HLI.out.fds.nodup hxm 0 hxn];exact HSJ.out.D.cell (by rw[dOf_len];exact hxn)
        rw[← hlv] at hlv50;have HLV:=Ya hlv;clear hlv hxm c0 c1 c2_ c3_;obtain⟨hb0,hb1⟩:=HSJ.out.B.cell z79 (j:=u) (by rw[bOf_len];exact hun);generalize ((bOf z79 n0 stj).getD u z79)=zz at hb0 hb1;have fd:=HSJ.out.D.free u;have fb0:=HSJ.out.B.free (u * 2);have fb1:=HSJ.out.B.free (u * 2+1);obtain⟨n1,n2,n3⟩:=HG8.out;obtain⟨n4,n5,n6,n7,n8⟩:=GD.out;have pl0:(0:Int)≤(lv:Int):=by omega
        have pl1:(lv:Int)<50:=by omega
        go_region;have m0_:Aside0 (IsI (seekW w10 gd gb u ((lv:Int)+1) e) gd (dOf n0 (stj ++ [⟨toP l e,e,x.lv+1⟩]))):=⟨by
         rw[dOf_snoc n0 HMEM.out,HUP.out, ← HLV.out];exact seek_D HSJ.out.D n6 u _ e⟩
        have m1_:Aside0 (IsS (seekW w10 gd gb u ((lv:Int)+1) e) gb (bOf z79 n0 (stj ++ [⟨toP l e,e,x.lv+1⟩]))):=⟨by
         rw[bOf_snoc z79 n0 HMEM.out,HUP.out];exact seek_B HSJ.out.B n6 u _ e⟩
        have m2_:Aside0 ((seekW w10 gd gb u ((lv:Int)+1) e).heap[g3]? =some (.cells #[.int .i64 n0, .bool Zb, .slice A2 l.length c2, .slice A3 F.length c3, .slice (some ad4) n0 c4] 107 (0,0))):=⟨(seek_far w10 u _ e n4 n5).trans HSJ.out.b3⟩;have m3_:Aside0 (Below w.heap.size w (seekW w10 gd gb u ((lv:Int)+1) e)):=⟨below_drew (Yh (Yh (Yh HSJ.out.below n7) n8) n8)⟩;obtain⟨Aj,Rj,frj,hqj,hqlj,hsj⟩:=HSJ.out.que;have hqj2:=hqj.step (w1:=seekW w10 gd gb u ((lv:Int)+1) e) (fun k _ hk=>seek_far w10 u _ e (hsj k hk).2.1 (hsj k hk).2.2.1);have HQJ:=Ya hqj2;have HQLJ:=Ya hqlj;have HSEPJ:=Ya hsj;have hif:i<stj.length:=(List.getElem?_eq_some_iff.1 HLI.out.at_).1;have hadd:=HLI.out.add HEJ.out HRP.out HMEM.out;have hcount:stj.length+1≤n0:=by have:=fds_len hadd.1 (esP_to HR.out) hs;simpa using this
        clear hqj hqj2 hqlj hsj HSJ B8 hb0 hb1 fd fb0 fb1 hcv hcu s0 s1 n1 n2 n3 hadd HG8;have HD:=m0_;have HS:=m1_;have B3:=m2_;have HB:=m3_;clear m0_ m1_ m2_ m3_;generalize hw12:(((w10.setCell ⟨gd,u,none⟩ (.int .i64 ((lv:Int)+1))).setCell ⟨gb,u * 2,none⟩ (.int .i64 e.f0)).setCell ⟨gb,u * 2+1,none⟩ (.bool e.f1)).drew=w12;rw[show seekW w10 gd gb u ((lv:Int)+1) e=w12 from hw12] at HD HS B3 HB HQJ;clear hw12;by_cases htu:t=(u:Int)
        ·have et:((u:Int) == t)=true:=by rw[htu];simp
         have HSN:=Ya (HLI.out.found HLP.out HX.out (by omega) HEJ.out HRP.out HMEM.out (by rw[HUP.out];exact htu));clear htu;go_wp2_with fail;rw[Exit.noGoto_ret];go_ret2;exact⟨gd,gb,_,rfl,n7,n8,n6,HD.out,HS.out,HB.out,HSN.out⟩
        ·have et:((u:Int) == t)=false:=beq_eq_false_iff_ne.2 (Ne.symm htu)
         have HNX:=Ya (HLI.out.put HEJ.out HRP.out HMEM.out (by rw[HUP.out];exact htu));clear htu;go_wp2_with (first|(go_at_call 101;refine(que_put gq Aj Rj frj (stj.length - (i+1)) n0 (u:Int) _ HQJ.out (by omega)).mono ?_;rintro e_ w13 ⟨rfl,A',R',fr',hq',hql',hk',hs'⟩;have HM:Aside0 (Sm n0 Zb A2 c2 l A3 c3 F (some ad4) c4 g3 gd gb gq w (stj ++ [⟨toP l e,e,x.lv+1⟩]) (i+1) w13):=⟨⟨HD.out.kept hk' (fun h=>(HSEPJ.out _ h).2.1 rfl),HS.out.kept hk' (fun h=>(HSEPJ.out _ h).2.2.1 rfl),hk'.blk B3.out (fun h=>(HSEPJ.out _ h).2.2.2 rfl),⟨A',R',fr',by rw[List.length_append,List.length_singleton,show stj.length+1 - (i+1)=stj.length - (i+1)+1 by omega];exact hq',by rw[List.length_append,List.length_singleton,show stj.length+1 - (i+1)=stj.length - (i+1)+1 by omega,hql',HQLJ.out,qOf_snoc (by omega)];show _=qOf stj (i+1) ++ [((toP l e:Nat):Int)];rw[HUP.out],fun k hk=>(hs' k hk).elim (HSEPJ.out k) (fun h=>by have h1:=HB.out.size;have h2:=HD.out.lt;have h3:=HS.out.lt;have h4:=blk_lt B3.out;omega)⟩,hk'.toBelow HB.out HB.out.size (fun b hb=>(HSEPJ.out b hb).1)⟩⟩;clear HD HS B3 HB hq' hql' hk' hs')|fail);go_roundw
         case rel=>exact⟨j+1,_,by omega,by go_num,HNX,HM⟩
         case measure=>simp[intOf]<;>omega
     ·have ej:j=LN:=by omega
      subst ej;have c55:decide ((j:Int)<(j:Int))=false:=Yw (by omega);go_wp2_with fail;go_roundw
      case rel=>exact⟨_,stj,i+1,rfl,Li.next HR.out hs HLP.out HX.out (by have h_:=HLI.out;rw[HLN.out] at h_;exact h_),HSJ.out⟩
      case measure=>exact least_lt ⟨stj,i+1,rfl,Li.next HR.out hs HLP.out HX.out (by have h_:=HLI.out;rw[HLN.out] at h_;exact h_),HSJ.out⟩ (by rw[← HLE.out,HMI.out];omega)
   ·have hi:i=st.length:=by omega
    rw[show st.length - i=0 by omega] at hq;have HQ:=Ya hq;clear hq hql hsep;go_wp2_with (first|(go_at_call 102;refine(que_len gq A R fr 0 n0 _ HQ.out).mono ?_;rintro e_ w_ ⟨rfl,hw_⟩;subst hw_)|fail);rw[Exit.noGoto_ret];go_ret2;have hg:=GD.out;exact⟨gd,gb,st,rfl,hg.2.2.2.1,hg.2.2.2.2,hg.2.2.1,HSM.out.D,HSM.out.B,HSM.out.below,HLP.out.seen hi⟩
end H
namespace H
open P
def revM (M:Nat→S79) (N i x:Nat):S79:=if x<i∨N - i≤x then M (N - 1 - x) else M x
theorem revM_step (M:Nat→S79) (N i j:Nat) (h:i+j+1=N) (hij:i<j) (x:Nat) (hx:x<N):revM M N (i+1) x=upd (upd (revM M N i) i (revM M N i j)) j (revM M N i i) x:=by
 unfold upd revM;by_cases e1:x=j
 ·subst e1
  rw[Yx (by omega),Yx rfl,Yy (by omega)];congr 1;omega
 ·rw[Yy e1]
  by_cases e2:x=i
  ·subst e2
   rw[Yx (by omega),Yx rfl,Yy (by omega)];congr 1;omega
  ·rw[Yy e2]
   by_cases e3:x<i∨N - i≤x
   ·rw[Yx (by omega),Yx e3]
   ·rw[Yy (by omega),Yy e3]
set_option maxHeartbeats 2000000 in
set_option maxRecDepth 100000 in
theorem reverse_calls (g N cap:Nat) (M:Nat→S79) (w:World) (h:Arr w g N M) (hN0:0<N) (hN:N≤1000000):
  Calls Try.prog 88 #[.slice (some ⟨g,0,none⟩) N cap] w fun e w'=>e= .returned (.tuple #[])∧Arr w' g N (fun x=>M (N - 1 - x))∧Fr w w' g:=by
 have HA:=Ya h;have p0:(0:Int)<(N:Int):=by omega
 have p1:(N:Int)≤1000000:=by omega
 clear h;go_enter Try.func88,Try.ntmps88;go_wp2_with fail;go_loopw [2,3] (fun v2 v3 w'=> ∃ i j:Nat,i+j+1=N∧v2= .int .i64 i∧v3= .int .i64 j∧i≤j+1∧Aside0 (Arr w' g N (revM M N i))∧Aside0 (Fr w w' g)) (fun v2 _ _=>N - (intOf v2).toNat)
 case atStart=>exact⟨0,N - 1,by omega,rfl,by first|go_num|(congr 1;omega),by omega,⟨HA.out.congr (fun x hx=>by unfold revM;rw[Yy (by omega)])⟩,⟨grow_refl w g⟩⟩
 case round=>
  obtain⟨i,j,hij,rfl,rfl,hle,HR,HF⟩:=hrel;by_cases hlt:i<j
  ·have e1:decide ((i:Int)<(j:Int))=true:=Yv (by omega)
   have q0:(0:Int)≤(i:Int):=by omega
   have q1:(i:Int)<(N:Int):=by omega
   have q2:(0:Int)≤(j:Int):=by omega
   have q3:(j:Int)<(N:Int):=by omega
   have q4:(1:Int)≤(j:Int):=by omega
   have a0:=HR.out.cell0 (x:=i) (by omega);have a1:=HR.out.cell1 (x:=i) (by omega);have b0:=HR.out.cell0 (x:=j) (by omega);have b1:=HR.out.cell1 (x:=j) (by omega);have f0:=HR.out.free (i * 2);have f1:=HR.out.free (i * 2+1);have f2:=HR.out.free (j * 2);have f3:=HR.out.free (j * 2+1);have n1:i * 2≠j * 2:=by omega
   have n2:i * 2≠j * 2+1:=by omega
   have n3:i * 2+1≠j * 2:=by omega
   have n4:i≠j:=by omega
   have HA2:=Ya ((((HR.out.put (x:=i) (by omega) (revM M N i j)).put (x:=j) (by omega) (revM M N i i)).congr (fun x hx=>revM_step M N i j hij hlt x hx)).drew);have HF2:Aside0 (Fr w ((((((wr.setCell ⟨g,i * 2,none⟩ (.int .i64 (revM M N i j).f0)).setCell ⟨g,i * 2+1,none⟩ (.bool (revM M N i j).f1)).setCell ⟨g,j * 2,none⟩ (.int .i64 (revM M N i i).f0)).setCell ⟨g,j * 2+1,none⟩ (.bool (revM M N i i).f1)).drew)) g):=⟨grow_drew (grow_set (grow_set (grow_set (grow_set HF.out _ _) _ _) _ _) _ _)⟩;clear HR HF;generalize revM M N i i=si at *;generalize revM M N i j=sj at *;go_wp2_with fail;go_region;clear a0 a1 b0 b1 f0 f1 f2 f3 n1 n2 n3 n4;generalize ((((wr.setCell ⟨g,i * 2,none⟩ (.int .i64 sj.f0)).setCell ⟨g,i * 2+1,none⟩ (.bool sj.f1)).setCell ⟨g,j * 2,none⟩ (.int .i64 si.f0)).setCell ⟨g,j * 2+1,none⟩ (.bool si.f1)).drew=w9 at HA2 HF2 ⊢;go_wp2_with fail;go_roundw
   case rel=>exact⟨i+1,j - 1,by omega,by go_num,by first|go_num|(congr 1;omega),by omega,HA2,HF2⟩
   case measure=>simp[intOf]<;>omega
  ·have e1:decide ((i:Int)<(j:Int))=false:=Yw (by omega)
   go_wp2_with fail;refine bodyPost_end (results_none rfl _ _ _) rfl ⟨rfl,HR.out.congr (fun x hx=> ?_),HF.out⟩;unfold revM;by_cases e3:x<i∨N - i≤x
   ·rw[Yx e3]
   ·rw[Yy e3]
    congr 1;omega
theorem map_rev (xs:List S79) (z:S79):(List.range xs.length).map (fun x=>xs.getD (xs.length - 1 - x) z)=xs.reverse:=by
 apply List.ext_getElem (by simp);intro j h1 h2;have hj:j<xs.length:=by simpa using h2
 rw[List.getElem_map,List.getElem_range,List.getElem_reverse,List.getD_eq_getElem?_getD,List.getElem?_eq_getElem (by omega)];rfl
theorem reverse_row (base:Nat) (ok:Nat→Prop) (v:Value) (xs:List S79) (w:World) (h:Kd.R k79 79 w base ok v xs) (hp:0<xs.length) (hl:xs.length≤1000000):
  Calls Try.prog 88 #[v] w fun e w'=>e= .returned (.tuple #[])∧Kd.R k79 79 w' base ok v xs.reverse∧w.grownBy w' v.ownBlock:=by
 obtain⟨g,cap,rfl,hb,hlt,_⟩:=Kd.R_form h hp;refine(reverse_calls g xs.length cap _ w (arr_of_R h hp) hp hl).mono ?_;rintro e w' ⟨rfl,ha,hf⟩;have hr:=R_of_arr (ok':=ok) h rfl hp ha hf (h.1 g rfl);rw[map_rev] at hr;exact⟨rfl,hr,hf.1⟩
end H
namespace H
open P
attribute [local irreducible] wpQuiet
theorem fromS_f {l:List S50} {F:List Int} {n:Nat} (hr:Right l F n) {s:S79} (hs:StepOf l s) (a:Int) (b:Bool):static_Flowing_From.f a b l F s.f0 s.f1=some (stFrom l s):=by
 obtain⟨i,h1,h2⟩:=hs;unfold static_Flowing_From.f stFrom eFrom eTo;rw[h2];cases s.f1<;>simp[h1]
theorem bOf_mem {n:Nat} {st:List (Fd S79)} (h:(nodes st).Nodup) {x:Fd S79} (hx:x∈st) (z d:S79) (hv:x.v<n):(bOf z n st).getD x.v d=x.by_:=by
 rw[bOf_get z st d hv,fnd_of h hx]
theorem back_step {l:List S50} {F:List Int} {s:Nat} {st:List (Fd S79)} (h:Fds (frP l) (toP l) (esP l F) s st) {x:Fd S79} (hx:x∈st) (hne:x.v≠s):
  ∃ y,y∈st∧x.by_∈esP l F y.v∧x.lv=y.lv+1∧frP l x.by_=y.v∧backL (frP l) st s x.lv x.v=x.by_::backL (frP l) st s y.lv y.v:=by
 rcases h.mem_lv hx with ⟨h1,_⟩|⟨_,_,y,hy,h4,h5⟩
 ·exact absurd h1 hne
 ·refine⟨y,hy,h4,h5,esP_fr _ _ h4,?_⟩
  rw[h5];rw[backL,Yy hne,fnd_of h.nodup hx];show x.by_::_=_;rw[esP_fr _ _ h4]
theorem back_end {fr:S79→Nat} {st:List (Fd S79)} {s k:Nat} :backL fr st s k s=[]:=by
 cases k with
 |zero=>rfl
 |succ k=>rw[backL,Yx rfl]
theorem way_of {l:List S50} {F:List Int} {n s:Nat} {st:List (Fd S79)} (hr:Right l F n) (hs:s<n) (h:Fds (frP l) (toP l) (esP l F) s st) (hp: ∃ r,bfP l F n s=st ++ r) {x:Fd S79} (hx:x∈st):wayP l F n s x.v=(backL (frP l) st s x.lv x.v).reverse:=by
 obtain⟨r,hr1⟩:=hp;unfold wayP;rw[Yx (by rw[hr1,nodes_app];exact List.mem_append_left _ (List.mem_map_of_mem hx))];unfold wayL;rw[hr1,backL_more h esP_fr r x.lv hx (Nat.le_refl _) (by rw[List.length_append];have:=lv_lt h hx;omega)]
set_option maxHeartbeats 2000000 in
set_option maxRecDepth 100000 in
theorem way_calls (n0:Nat) (Zb:Bool) (A2:Option Addr) (c2:Nat) (l:List S50) (A3:Option Addr) (c3:Nat) (F:List Int) (A4:Option Addr) (c4:Nat) (s t:Nat) (w:World)
  (hR:Right l F n0) (hs:s<n0) (ht:t<n0) (hts:s≠t) (hc2:l.length≤c2) (hc3:F.length≤c3) (h2:Kd.C k50 w A2 l.length l) (h3:Kd.C (Kd.int .i64) w A3 F.length F) (h4:(Kd.slice 79 k79).C w A4 n0 (rowsAt l n0 n0)):
  Calls Try.prog 75 #[.agg #[.int .i64 n0, .bool Zb, .slice A2 l.length c2, .slice A3 F.length c3, .slice A4 n0 c4], .int .i64 (s:Int), .int .i64 (t:Int)] w fun e w'=> ∃ v:Value,e= .returned (.tuple #[v, .bool (decide (t∈nodes (bfP l F n0 s)))])∧Kd.R k79 79 w' w.heap.size (fun _=>True) v (wayP l F n0 s t)∧Below w.heap.size w w':=by
 have hu118:=Try.underlying107;have hu115:=Try.underlying104;have HR:=Ya hR;have HC2:=Ya hc2;have HC3:=Ya hc3;have H2:=Ya h2;have H3:=Ya h3;have H4:=Ya h4;have HB:=Ya (Yo w.heap.size w);have hn50:=hR.fifty;have pt:(0:Int)≤(t:Int):=by omega
 have qt:(t:Int)<(n0:Int):=by omega
 clear hR h2 h3 h4 hc2 hc3;go_enter Try.func75,Try.ntmps75;go_upto_region 2 with (first|((with_reducible refine gate_dst (N:=3) rfl ?_);refine Yz ?hg (N:=3) ?hd (cs:= #[.int .i64 n0, .bool Zb, .slice A2 l.length c2, .slice A3 F.length c3, .slice A4 n0 c4]) (t:=107) ?hr ?_;(case hd=>rfl);(case hg=>rfl);(case hr=>first|(go_simp;done)|(go_simp;rfl));intro g3 hg w5 Zf hb;have n0_:=Ya (Yk HB.out hb);have B3:=Ya Zf;clear HB;have HB:=n0_;have GE3:Aside0 (w.heap.size≤g3):=⟨Nat.le_of_eq hg.symm⟩;clear n0_ hb Zf hg;have c0:w5.cell? ⟨g3,0,none⟩=some (.int .i64 n0):=(Yc B3.out 0).trans rfl;have c1:w5.cell? ⟨g3,1,none⟩=some (.bool Zb):=(Yc B3.out 1).trans rfl;have c2_:w5.cell? ⟨g3,2,none⟩=some (.slice A2 l.length c2):=(Yc B3.out 2).trans rfl;have c3_:w5.cell? ⟨g3,3,none⟩=some (.slice A3 F.length c3):=(Yc B3.out 3).trans rfl;have c4_:w5.cell? ⟨g3,4,none⟩=some (.slice A4 n0 c4):=(Yc B3.out 4).trans rfl)|(go_at_call 91;refine(seek_calls n0 Zb A2 c2 l A3 c3 F A4 c4 s (t:Int) _ HR.out hs (by omega) HC2.out HC3.out (Yt H2.out HB.out) (Yt H3.out HB.out) (Yt H4.out HB.out)).mono ?_;rintro e_ w6 ⟨gd,gb,st,rfl,hg1,hg2,hg3,hd,hs_,hb,hsn⟩;have HD:=Ya hd;have HS:=Ya hs_;have HSN:=Ya hsn;have HG:Aside0 (g3≠gd∧g3≠gb∧gd≠gb∧w.heap.size≤gd∧w.heap.size≤gb):=⟨by have:=blk_lt B3.out;have:=HB.out.size;omega⟩;have m0_:=Ya (Yk HB.out hb);have m1_:=Ya (Yn B3.out hb);clear HB B3 hd hs_ hb hsn hg1 hg2 hg3 c0 c1 c2_ c3_ c4_;have HB:=m0_;have B3:=m1_;clear m0_ m1_)|fail)
 obtain⟨y,hy⟩: ∃ y_,y_=(dOf n0 st).getD t 0:=⟨_,rfl⟩;have hcy:w6.cell? ⟨gd,t,none⟩=some (.int .i64 y):=by rw[hy];exact HD.out.cell (by rw[dOf_len];exact ht)
 have hneg:=dOf_neg st 0 ht;rw[← hy] at hneg;clear hy;by_cases hmem:t∈nodes st
 ·have ey:decide (y<0)=false:=Yw (fun h=>hneg.1 h hmem)
  obtain⟨x0,hx0,hxt⟩:=List.mem_map.1 hmem;clear hneg hmem;have hstn:=fds_len HSN.out.fds (esP_to HR.out) hs;have HX0:=Ya hx0;have HXT:=Ya hxt;clear hx0 hxt;go_wp2_with fail;clear hcy HD;have m0_:=Ya (Ye HB.out (.cells #[] 79));have m1_:=Ya (HS.out.below (Ye (Yo _ _) (.cells #[] 79)));have m2_:=Ya (Yn B3.out (Ye (Yo _ _) (.cells #[] 79)));have HO:Aside0 (Kd.R k79 79 (w6.alloc (.cells #[] 79)) w.heap.size (fun k=>k≠gb∧k≠g3) (.slice (some ⟨w6.heap.size,0,none⟩) 0 0) []):=⟨IsS.R (B:=[]) (heap_alloc_new w6 _) (by simp) HB.out.size ⟨by have:=HS.out.lt;omega,by have:=blk_lt B3.out;omega⟩⟩;clear HB HS B3;have HB:=m0_;have HS:=m1_;have B3:=m2_;clear m0_ m1_ m2_;generalize w6.alloc (.cells #[] 79)=w7 at *;generalize Value.slice (some ⟨w6.heap.size,0,none⟩) 0 0=v0 at *;go_loopw [10,11] (fun v10 v11 w'=> ∃ (x:Fd S79) (O:List S79),v11= .int .i64 x.v∧x∈st∧Aside0 (O ++ backL (frP l) st s x.lv x.v=backL (frP l) st s x0.lv x0.v)∧O.length+x.lv≤50∧Aside0 (Kd.R k79 79 w' w.heap.size (fun k=>k≠gb∧k≠g3) v10 O)∧Aside0 (IsS w' gb (bOf z79 n0 st))∧Aside0 (w'.heap[g3]? =some (.cells #[.int .i64 n0, .bool Zb, .slice A2 l.length c2, .slice A3 F.length c3, .slice A4 n0 c4] 107 (0,0)))∧Aside0 (Below w.heap.size w w')) (fun _ v11 _=>((dOf n0 st).getD (intOf v11).toNat 0).toNat)
  case atStart=>exact⟨x0,[],by rw[HXT.out],HX0.out,⟨rfl⟩,by have:=lv_lt HSN.out.fds HX0.out;show 0+_≤50;omega,HO,HS,B3,HB⟩
  case round=>
   clear HO HS B3 HB;obtain⟨x,O,rfl,hx,HBK,hlen,HO,HS,B3,HB⟩:=hrel;have hxn:x.v<n0:=fds_lt HSN.out.fds (esP_to HR.out) hs _ (List.mem_map_of_mem hx);by_cases hxs:x.v=s
   ·have e1:((x.v:Int) != (s:Int))=false:=by rw[hxs];simp
    have hO:O=backL (frP l) st s x0.lv x0.v:=by
     have h_:=HBK.out;rw[hxs,back_end,List.append_nil] at h_;exact h_
    have hlp:0<O.length:=by
     rw[hO,(backL_spec HSN.out.fds esP_fr x0.lv HX0.out (Nat.le_refl _)).1];rcases HSN.out.fds.mem_lv HX0.out with ⟨h1,_⟩|⟨_,_,_,_,_,h5⟩
     ·rw[HXT.out] at h1;exact absurd h1.symm hts
     ·omega
    have HWY:Aside0 (wayP l F n0 s t=O.reverse):=⟨by rw[← HXT.out,way_of HR.out hs HSN.out.fds HSN.out.pre HX0.out,hO]⟩;have HIN:Aside0 (t∈nodes (bfP l F n0 s)):=⟨by
     obtain⟨r,hr⟩:=HSN.out.pre;rw[hr,nodes_app, ← HXT.out];exact List.mem_append_left _ (List.mem_map_of_mem HX0.out)⟩
    have HOL:Aside0 (O.length≤50):=⟨by omega⟩;have HLP:=Ya hlp;clear hO hlp hlen hxs;go_wp2_with (first|(go_at_call 88;refine(reverse_row w.heap.size _ u10 O _ HO.out HLP.out (by have:=HOL.out;omega)).mono ?_;rintro e_ w9 ⟨rfl,hr,hg⟩;have m0_:=Ya hr;have m1_:=Ya (pw_below_grown HB.out _ HB.out.size hg (fun k hk=>Kd.R_base HO.out k hk));clear HO HB hr hg;have HO:=m0_;have HB:=m1_;clear m0_ m1_)|fail);go_ret2;exact⟨u10,by rw[Yv HIN.out];rfl,by rw[HWY.out];exact Kd.R_mono HO.out (fun _ _=>trivial),HB.out⟩
   ·have e1:((x.v:Int) != (s:Int))=true:=by rw[bne_iff_ne];omega
    obtain⟨z,hz,hze,hlv,hfz,hbk⟩:=back_step HSN.out.fds hx hxs;obtain⟨b0,b1⟩:=HS.out.cell z79 (j:=x.v) (by rw[bOf_len];exact hxn);rw[bOf_mem HSN.out.fds.nodup hx _ _ hxn] at b0 b1;have hso:StepOf l x.by_:=stL_of (mem_esP.1 hze).1;have hfr:stFrom l x.by_=(z.v:Int):=by have h_:=stFrom_in HR.out hso;unfold frP at hfz;omega
    have hfm:=fromS_f HR.out hso (n0:Int) Zb;rw[hfr] at hfm;obtain⟨e,hee⟩: ∃ e_,e_=x.by_:=⟨_,rfl⟩;rw[← hee] at b0 b1 hfm hbk;have HFM:=Ya hfm;have HEE:=Ya hee;have HBK2:Aside0 ((O ++ [e]) ++ backL (frP l) st s z.lv z.v=backL (frP l) st s x0.lv x0.v):=⟨by rw[← HBK.out,hbk,List.append_assoc];rfl⟩;have HZ:=Ya hz;have HLV:=Ya hlv;have hl2:(O ++ [e]).length+z.lv≤50:=by rw[List.length_append,List.length_singleton];omega
    have HL2:=Ya hl2;have hOl:O.length≤50:=by omega
    have hmz:((dOf n0 st).getD z.v 0).toNat<((dOf n0 st).getD x.v 0).toNat:=by
     rw[dOf_mem HSN.out.fds.nodup hz 0 (fds_lt HSN.out.fds (esP_to HR.out) hs _ (List.mem_map_of_mem hz)),dOf_mem HSN.out.fds.nodup hx 0 hxn];omega
    have HMZ:=Ya hmz;have px:(0:Int)≤(x.v:Int):=by omega
    have qx:(x.v:Int)<(n0:Int):=by omega
    clear hz hze hlv hfz hbk hso hfr hfm hee HBK hlen hl2 hmz;go_wp2_with (first|((with_reducible refine gate_builtin (b:= .append) (xs:= #[.tmp 36, .tmp 41]) rfl ?_);at_builtin;refine Kd.R_append k79 (w0:=w) w.heap.size rfl (.tmp 36) (.tmp 41) 67 79 (.agg #[(.int .i64 0),(.bool false)]) 16 rfl Try.underlying67 info79 rfl (by decide) (by omega) u10 O e [.int .i64 e.f0, .bool e.f1] (fun k=>k≠gb∧k≠g3) (fun _=>False) rfl rfl ?aP (fun _ hk=>hk.elim) ?aF ?aO ?aB ?aS ?aL ?_;(case aP=>exact k79_mkM _ _ _ e);(case aF=>exact(fun k hk=>⟨by have:=HS.out.lt;omega,by have:=blk_lt B3.out;omega⟩));(case aO=>exact HO.out);(case aB=>exact HB.out);(case aS=>exact HB.out.size);(case aL=>omega);intro v1 w9 ho hb hg hat;have m0_:=Ya ho;have m1_:=Ya hb;have m2_:=Ya (HS.out.same (hg.block gb HS.out.lt (fun h=>(HO.out.1 gb h.symm).1 rfl)));have m3_:=Ya ((hg.block g3 (blk_lt B3.out) (fun h=>(HO.out.1 g3 h.symm).2 rfl)).trans B3.out);clear HO HS B3 HB ho hb hg hat b0 b1;have HO:=m0_;have HB:=m1_;have HS:=m2_;have B3:=m3_;clear m0_ m1_ m2_ m3_)|fail);obtain⟨d0,d1⟩:=HS.out.cell z79 (j:=x.v) (by rw[bOf_len];exact hxn);rw[bOf_mem HSN.out.fds.nodup hx _ _ hxn, ← HEE.out] at d0 d1;have q0: ∀ p:BelowW w9,p.at_.cell? ⟨g3,0,none⟩=some (.int .i64 n0):=fun p=>p.cell ((Yc B3.out 0).trans rfl)
    have q1: ∀ p:BelowW w9,p.at_.cell? ⟨g3,1,none⟩=some (.bool Zb):=fun p=>p.cell ((Yc B3.out 1).trans rfl)
    have q2: ∀ p:BelowW w9,p.at_.cell? ⟨g3,2,none⟩=some (.slice A2 l.length c2):=fun p=>p.cell ((Yc B3.out 2).trans rfl)
    have q3: ∀ p:BelowW w9,p.at_.cell? ⟨g3,3,none⟩=some (.slice A3 F.length c3):=fun p=>p.cell ((Yc B3.out 3).trans rfl)
    have q4: ∀ p:BelowW w9,p.at_.cell? ⟨gb,x.v * 2,none⟩=some (.int .i64 e.f0):=fun p=>p.cell d0
    have q5: ∀ p:BelowW w9,p.at_.cell? ⟨gb,x.v * 2+1,none⟩=some (.bool e.f1):=fun p=>p.cell d1
    have HCA:Aside0 (∀ p:BelowW w9,Kd.C k50 p.at_ A2 l.length l):=⟨fun p=>Yt (Yt H2.out HB.out) p.below⟩;have HCF:Aside0 (∀ p:BelowW w9,Kd.C (Kd.int .i64) p.at_ A3 F.length F):=⟨fun p=>Yt (Yt H3.out HB.out) p.below⟩;clear d0 d1;refine wp_region_quiet_below (by kernel_rfl) (by kernel_rfl) ?_;(repeat(quiet_step ((first|(go_at_call 87;exact calls_below_of (static_Flowing_From.calls (n0:Int) Zb A2 c2 l A3 c3 F e.f0 e.f1 (z.v:Int) _ (HCA.out _) HC2.out (HCF.out _) HC3.out HFM.out))))));refine wpQuiet_nil ?_;intro wq hw';obtain⟨⟨wz,hbq⟩,hwq⟩:=hw';subst hwq;have m0_:=Ya (Ys HO.out hbq);have m1_:=Ya (HS.out.below hbq);have m2_:=Ya (Yn B3.out hbq);have m3_:=Ya (Yk HB.out hbq);clear HO HS B3 HB HCA HCF q0 q1 q2 q3 q4 q5 hbq;have HO:=m0_;have HS:=m1_;have B3:=m2_;have HB:=m3_;clear m0_ m1_ m2_ m3_;go_wp2_with fail;go_roundw
    case rel=>exact⟨z,O ++ [e],rfl,HZ.out,HBK2,HL2.out,HO,HS,B3,HB⟩
    case measure=>have h_:=HMZ.out;simpa [intOf] using h_
 ·have ey:decide (y<0)=true:=Yv (hneg.2 hmem)
  have hfull:t ∉ nodes (bfP l F n0 s):=by
   rcases HSN.out.hit with h|⟨tn,h1,h2⟩
   ·rw[← h];exact hmem
   ·have:tn=t:=by omega
    subst this;exact absurd h2 hmem
  have HFU:=Ya hfull;clear hneg hmem hfull;go_wp2_with fail;go_ret2;refine⟨.slice none 0 0,by rw[Yw HFU.out];rfl,?_,HB.out⟩;unfold wayP;rw[Yy HFU.out];exact Kd.R_nil _ _ _ _ _
end H
namespace H
open P Q
attribute [local irreducible] wpQuiet
def wayRes (l:List S50) (L:List S79) (n s:Nat) (t:Int):List S79 × Bool:=if t∈nX (bfL l L n s) then(wayL (frP l) (bfL l L n s) s t.toNat,true) else([],false)
theorem nX_nodup {st:List (Fd S79)} (h:(nodes st).Nodup):(nX st).Nodup:=by
 unfold nX;refine List.pairwise_map.2 (h.imp fun {a b} hab e=>hab ?_);omega
theorem hasI_at {st:List (Fd S79)} (h:(nodes st).Nodup) {i:Nat} {x:Fd S79} (hx:st[i]? =some x):hasI (nX st) (x.v:Int) 0=(i:Int):=by
 have hil:=(List.getElem?_eq_some_iff.1 hx).1;have hm:(x.v:Int)∈nX st:=mem_nX.2 (List.mem_map_of_mem (List.mem_of_getElem? hx));unfold hasI;rw[List.drop_zero,Yx hm,Nat.zero_add];have h1:=List.idxOf_lt_length_of_mem hm;have h2:(nX st)[(nX st).idxOf (x.v:Int)]=(x.v:Int):=List.getElem_idxOf h1;have hi:i<(nX st).length:=by rw[nX_len];exact hil
 have h3:(nX st)[i]'hi=(x.v:Int):=by
  have h4:=nX_get hx;rw[rd_nat,List.getD_eq_getElem?_getD,List.getElem?_eq_getElem hi] at h4;exact h4
 have hp:=List.pairwise_iff_getElem.1 (nX_nodup h);rcases Nat.lt_trichotomy ((nX st).idxOf (x.v:Int)) i with g|g|g
 ·exact absurd (h2.trans h3.symm) (hp _ _ h1 hi g)
 ·rw[g]
 ·exact absurd (h3.trans h2.symm) (hp _ _ hi h1 g)
def wayOk (n:Int) (l:List S50) (L:List S79) (s:Int):Bool:=
 decide (0≤s) && decide (s<n) && decide (n≤50) && decide (l.length≤200) && decide (L.length≤400) && (l.all fun a=>decide (0≤a.f0) && decide (a.f0<n) && decide (0≤a.f1) && decide (a.f1<n)) && (L.all fun e=>decide (0≤e.f0) && decide (e.f0<(l.length:Int)))
theorem wayOk_iff {n:Nat} {l:List S50} {L:List S79} {s:Nat} :wayOk n l L s=true↔StepsOk l n L∧s<n∧n≤50:=by
 unfold wayOk;simp only[Bool.and_eq_true,decide_eq_true_eq,List.all_eq_true];constructor
 ·rintro⟨⟨⟨⟨⟨⟨_,h1⟩,h2⟩,h3⟩,h4⟩,h5⟩,h6⟩
  refine⟨⟨?_,h3,?_,h4⟩,by omega,by omega⟩
  ·intro i hi
   have hg:=h5 _ (List.getElem_mem hi);have e1:rd_T50 l i=l[i]:=by rw[rdArc_nat,List.getD_eq_getElem?_getD,List.getElem?_eq_getElem hi];rfl
   unfold eFrom eTo;rw[e1];omega
  ·intro e he
   have:=h6 e he;exact⟨e.f0.toNat,by omega,by omega⟩
 ·rintro⟨h,h1,h2⟩
  refine⟨⟨⟨⟨⟨⟨by omega,by omega⟩,by omega⟩,h.arcs⟩,h.len⟩,?_⟩,?_⟩
  ·intro a ha
   obtain⟨i,hi,rfl⟩:=List.mem_iff_getElem.1 ha;have hg:=h.ends i hi;have e1:rd_T50 l i=l[i]:=by rw[rdArc_nat,List.getD_eq_getElem?_getD,List.getElem?_eq_getElem hi];rfl
   unfold eFrom eTo at hg;rw[e1] at hg;omega
  ·intro e he
   obtain⟨i,h3,h4⟩:=h.of e he;omega
theorem y_cells {w:World} {base g cap:Nat} {ok:Nat→Prop} {B:List S79} (h:Kd.R k79 79 w base ok (.slice (some ⟨g,0,none⟩) B.length cap) B) {i:Nat} {x:S79} (hx:B[i]? =some x):
  w.cell? ⟨g,i * 2,none⟩=some (.int .i64 x.f0)∧w.cell? ⟨g,i * 2+1,none⟩=some (.bool x.f1):=by
 have hi:=(List.getElem?_eq_some_iff.1 hx).1;obtain⟨c,_,hM,hc,_⟩:=Kd.R_elem h z79 (i:Int) (by omega) (by omega);have hgd:B.getD (i:Int).toNat z79=x:=by rw[Int.toNat_natCast,List.getD_eq_getElem?_getD,hx];rfl
 rw[hgd] at hM;obtain rfl:=k79_openM hM;exact⟨hc 0 _ rfl,hc 1 _ rfl⟩
theorem way_nat (l:List S50) (L:List S79) (n s t:Nat):wayRes l L n s (t:Int)=if t∈nodes (bfL l L n s) then(wayL (frP l) (bfL l L n s) s t,true) else([],false):=by
 unfold wayRes;by_cases h:t∈nodes (bfL l L n s)
 ·rw[Yx (mem_nX.2 h),Yx h,Int.toNat_natCast]
 ·rw[Yy (fun g=>h (mem_nX.1 g)),Yy h]
set_option maxHeartbeats 2000000 in
set_option maxRecDepth 100000 in
theorem way_ref (n0:Nat) (Zb:Bool) (A2:Option Addr) (c2:Nat) (l:List S50) (s:Nat) (t:Int) (A3:Option Addr) (c3:Nat) (L:List S79) (w:World)
  (hL:StepsOk l n0 L) (hs:s<n0) (hn50:n0≤50) (h2:Kd.C k50 w A2 l.length l) (hc2:l.length≤c2) (h3:Kd.C k79 w A3 L.length L) (hc3:L.length≤c3):
  Calls Try.prog 54 #[.agg #[.int .i64 n0, .bool Zb, .slice A2 l.length c2], .int .i64 (s:Int), .int .i64 t, .slice A3 L.length c3] w fun e w'=> ∃ v:Value,e= .returned (.tuple #[v, .bool (wayRes l L n0 s t).2])∧Kd.R k79 79 w' w.heap.size (fun _=>True) v (wayRes l L n0 s t).1∧Below w.heap.size w w':=by
 have hu24:=Try.underlying24;have hu161:=Try.underlying119;have hu38:=Try.underlying79;obtain⟨st,hst⟩: ∃ st_,st_=bfL l L n0 s:=⟨_,rfl⟩;have hF:Fds (frP l) (toP l) (esL l L) s st:=by rw[hst];exact(bfsN_upto (esL_to hL) hs).fds
 have hstl:st.length≤n0:=fds_len hF (esL_to hL) hs;have HF:=Ya hF;have HST:=Ya hst;obtain⟨K1,hK1⟩:=sought_ev hL hn50 Zb hs;obtain⟨K2,hK2⟩:=has_ev (nX (bfL l L n0 s)) (bY (bfL l L n0 s)) t (by rw[nX_len, ← hst];omega);have hs1:=hK1 K1 (Nat.le_refl _);have hh1:=hK2 K2 (Nat.le_refl _);rw[← hst] at hs1 hh1;obtain⟨K,hk⟩: ∃ k_,k_=K1:=⟨_,rfl⟩;obtain⟨KH,hkh⟩: ∃ k_,k_=K2:=⟨_,rfl⟩;rw[← hk] at hs1;rw[← hkh] at hh1;have HSO:=Ya hs1;have HH:=Ya hh1;have XL:Aside0 (0<st.length):=⟨by obtain⟨x,r,h1,_⟩:=hF.head;rw[h1];simp⟩;clear hK1 hK2 hk hkh hs1 hh1 hF hst K1 K2;have HL:=Ya hL;have HC2:=Ya hc2;have HC3:=Ya hc3;have H2:=Ya h2;have H3:=Ya h3;have HB:=Ya (Yo w.heap.size w);clear hL h2 h3 hc2 hc3;go_enter Try.func54,Try.ntmps54;go_upto_region 2 with (first|((with_reducible refine gate_dst (N:=4) rfl ?_);refine Yz ?hg (N:=4) ?hd (cs:= #[.int .i64 n0, .bool Zb, .slice A2 l.length c2]) (t:=24) ?hr ?_;(case hd=>rfl);(case hg=>rfl);(case hr=>first|(go_simp;done)|(go_simp;rfl));intro g3 hg w5 Zf hb;have n0_:=Ya (Yk HB.out hb);have B3:=Ya Zf;clear HB;have HB:=n0_;have GE3:Aside0 (w.heap.size≤g3):=⟨Nat.le_of_eq hg.symm⟩;clear n0_ hb Zf hg;have c0:w5.cell? ⟨g3,0,none⟩=some (.int .i64 n0):=(Yc B3.out 0).trans rfl;have c1:w5.cell? ⟨g3,1,none⟩=some (.bool Zb):=(Yc B3.out 1).trans rfl;have c2_:w5.cell? ⟨g3,2,none⟩=some (.slice A2 l.length c2):=(Yc B3.out 2).trans rfl)|(go_at_call 77;refine(ebbtideref08_sought.calls K (n0:Int) Zb A2 c2 l (s:Int) A3 c3 L _ _ _ (Yt H2.out HB.out) HC2.out (Yt H3.out HB.out) HC3.out HSO.out).mono ?_;rintro e_ w6 ⟨vx,vy,rfl,hx,hy,hb⟩;obtain⟨gx,cx,rfl,hgx,hgx2,cellsx,hcx⟩:=Kd.R_form hx (by have:=XL.out;rw[nX_len];omega);obtain⟨gy,cy,rfl,hgy,hgy2,cellsy,hcy⟩:=Kd.R_form hy (by have:=XL.out;rw[bY_len];omega);clear hcx hcy cellsx cellsy;have HX:=Ya hx;have HY:=Ya hy;have HGX:Aside0 (g3<gx∧g3<gy∧gx<w6.heap.size∧gy<w6.heap.size):=⟨by have:=blk_lt B3.out;omega⟩;have m0_:=Ya (Yk HB.out hb);have m1_:=Ya (Yn B3.out hb);clear HB B3 hx hy hb hgx hgx2 hgy hgy2 c0 c1 c2_;have HB:=m0_;have B3:=m1_;clear m0_ m1_)|fail)
 have HW:Aside0 ((w6.alloc (Obj.cells #[.slice (some ⟨gx,0,none⟩) (nX st).length cx, .slice (some ⟨gy,0,none⟩) (bY st).length cy] 119)).heap[w6.heap.size]? =some (.cells #[.slice (some ⟨gx,0,none⟩) (nX st).length cx, .slice (some ⟨gy,0,none⟩) (bY st).length cy] 119 (0,0))):=⟨heap_alloc_new _ _⟩;have h_:=HB.out.size;have m0_:=Ya (Ye HB.out (Obj.cells #[.slice (some ⟨gx,0,none⟩) (nX st).length cx, .slice (some ⟨gy,0,none⟩) (bY st).length cy] 119));have m1_:=Ya (Yn B3.out (Ye (Yo _ _) (Obj.cells #[.slice (some ⟨gx,0,none⟩) (nX st).length cx, .slice (some ⟨gy,0,none⟩) (bY st).length cy] 119)));have m2_:=Ya (Ys HX.out (Ye (Yo _ _) (Obj.cells #[.slice (some ⟨gx,0,none⟩) (nX st).length cx, .slice (some ⟨gy,0,none⟩) (bY st).length cy] 119)));have m3_:=Ya (Ys HY.out (Ye (Yo _ _) (Obj.cells #[.slice (some ⟨gx,0,none⟩) (nX st).length cx, .slice (some ⟨gy,0,none⟩) (bY st).length cy] 119)));clear HB B3 HX HY h_;have HB:=m0_;have B3:=m1_;have HX:=m2_;have HY:=m3_;clear m0_ m1_ m2_ m3_;generalize w6.alloc _=w7 at *;generalize w6.heap.size=g10 at *;obtain⟨t0,t1⟩:w7.cell? ⟨g10,0,none⟩=some (.slice (some ⟨gx,0,none⟩) (nX st).length cx)∧w7.cell? ⟨g10,1,none⟩=some (.slice (some ⟨gy,0,none⟩) (bY st).length cy):=⟨(Yc HW.out 0).trans rfl,(Yc HW.out 1).trans rfl⟩;by_cases hmem:t∈nX st
 ·obtain⟨tn,rfl⟩: ∃ tn:Nat,t=tn:=by
   obtain⟨v,_,hv⟩:=List.mem_map.1 hmem;exact⟨v,hv.symm⟩
  have hmem:=mem_nX.1 hmem;have e0:decide (hasI (nX st) (tn:Int) 0<0)=false:=Yw (fun h=>hasI_neg.1 h hmem);obtain⟨x0,hx0,hxt⟩:=List.mem_map.1 hmem;have HX0:=Ya hx0;have HXT:=Ya hxt;have HWR:Aside0 (wayRes l L n0 s (tn:Int)=(wayL (frP l) st s tn,true)):=⟨by rw[way_nat, ← HST.out,Yx hmem]⟩;have HBK0:Aside0 ((backL (frP l) st s x0.lv x0.v).reverse=wayL (frP l) st s tn):=⟨by
   unfold wayL;rw[← HXT.out];have hlv:=lv_lt HF.out HX0.out;have h_:=backL_more HF.out esL_fr [] x0.lv HX0.out (Nat.le_refl _) (k':=st.length) (Nat.le_of_lt hlv);rw[List.append_nil] at h_;rw[h_]⟩
  clear hx0 hxt hmem;go_wp2_with (first|(go_at_call 78;refine(ebbtideref08_found_has.calls KH _ cx (nX st) _ cy (bY st) _ _ _ (Kd.R_reads' HX.out).2.2 (Kd.R_reads' HX.out).2.1 (Kd.R_reads' HY.out).2.2 (Kd.R_reads' HY.out).2.1 HH.out).mono ?_;rintro e_ w8 ⟨rfl,hb⟩;have m0_:=Ya (Yk HB.out hb);have m1_:=Ya (Yn B3.out hb);have m2_:=Ya (Yn HW.out hb);have m3_:=Ya (Ys HX.out hb);have m4_:=Ya (Ys HY.out hb);clear HB B3 HW HX HY hb;have HB:=m0_;have B3:=m1_;have HW:=m2_;have HX:=m3_;have HY:=m4_;clear m0_ m1_ m2_ m3_ m4_;clear t0 t1)|fail);have h8:=HB.out.size;go_loopw [11,12] (fun v11 v12 w'=> ∃ (x:Fd S79) (O:List S79),v12= .int .i64 x.v∧x∈st∧Aside0 (O ++ backL (frP l) st s x.lv x.v=backL (frP l) st s x0.lv x0.v)∧O.length+x.lv≤50∧Aside0 (Kd.R k79 79 w' w8.heap.size (fun _=>True) v11 O)∧Aside0 (Below w8.heap.size w8 w')) (fun _ v12 _=>((dOf n0 st).getD (intOf v12).toNat 0).toNat)
  case atStart=>exact⟨x0,[],by rw[HXT.out],HX0.out,⟨rfl⟩,by have:=lv_lt HF.out HX0.out;show 0+_≤50;omega,⟨Kd.R_nil _ _ _ _ _⟩,⟨Yo _ _⟩⟩
  case round=>
   obtain⟨x,O,rfl,hx,HBK,hlen,HO,HC⟩:=hrel;have hxn:x.v<n0:=fds_lt HF.out (esL_to HL.out) hs _ (List.mem_map_of_mem hx);by_cases hxs:x.v=s
   ·have e1:((x.v:Int) != (s:Int))=false:=by rw[hxs];simp
    have hO:O=backL (frP l) st s x0.lv x0.v:=by
     have h_:=HBK.out;rw[hxs,back_end,List.append_nil] at h_;exact h_
    have HOE:=Ya hO;have hOl:O.length≤50:=by omega
    clear hxs hO hlen;obtain⟨A11,c11,e11⟩:=Kd.R_slice HO.out;subst e11;have hwr:IntKind.i64.wrap ((O.length:Int) - 1)=(O.length:Int) - 1:=IntWalk.i64_in _ (by omega);generalize wr=wE at *;go_wp2_with fail;have m0_:=Ya (Yk HB.out HC.out);clear HB HC hwr e1;have HB:=m0_;clear m0_;go_loopw [14,15] (fun v14 v15 w'=> ∃ (q:Int) (U:List S79),v15= .int .i64 q∧(-1≤q∧q<(O.length:Int))∧Aside0 (U=(O.drop (q+1).toNat).reverse)∧Aside0 (Kd.R k79 79 w' wE.heap.size (fun _=>True) v14 U)∧Aside0 (Below wE.heap.size wE w')) (fun _ v15 _=>(intOf v15+1).toNat)
    case atStart=>exact⟨(O.length:Int) - 1,[],rfl,⟨by omega,by omega⟩,⟨by rw[show ((O.length:Int) - 1+1).toNat=O.length by omega,List.drop_length];rfl⟩,⟨Kd.R_nil _ _ _ _ _⟩,⟨Yo _ _⟩⟩
    case round=>
     obtain⟨q,U,rfl,⟨hq1,hq2⟩,HU,HV,HC⟩:=hrel;by_cases hq:0≤q
     ·have e1:decide (0≤q)=true:=Yv hq
      obtain⟨g,cap,ev,_⟩:=Kd.R_form HO.out (by omega);injection ev with ev1 _ ev2
      subst ev1;subst ev2;have hqi:O[q.toNat]? =some O[q.toNat]:=List.getElem?_eq_getElem (by omega);generalize O[q.toNat]=e at hqi;obtain⟨b0,b1⟩:=y_cells (Ys HO.out HC.out) hqi;have hwr:IntKind.i64.wrap (q - 1)=q - 1:=IntWalk.i64_in _ (by omega);have HU2:Aside0 (U ++ [e]=(O.drop (q - 1+1).toNat).reverse):=⟨by
       have hd:O.drop q.toNat=e::O.drop (q.toNat+1):=by
        obtain⟨h1,h2⟩:=List.getElem?_eq_some_iff.1 hqi;rw[List.drop_eq_getElem_cons h1,h2]
       rw[show (q - 1+1).toNat=q.toNat by omega,hd,List.reverse_cons,HU.out,show (q+1).toNat=q.toNat+1 by omega]⟩
      have hUl:U.length≤50:=by rw[HU.out,List.length_reverse,List.length_drop];omega
      clear hqi HU;go_wp2_with (first|((with_reducible refine gate_builtin (b:= .append) (xs:= #[.tmp 49, .tmp 54]) rfl ?_);at_builtin;refine Kd.R_append k79 (w0:=wE) wE.heap.size rfl (.tmp 49) (.tmp 54) 67 79 (.agg #[(.int .i64 0),(.bool false)]) 16 rfl Try.underlying67 info79 rfl (by decide) (by omega) u14 U e [.int .i64 e.f0, .bool e.f1] (fun _=>True) (fun _=>False) rfl rfl ?aP (fun _ hk=>hk.elim) ?aF ?aO ?aB ?aS ?aL ?_;(case aP=>exact k79_mkM _ _ _ e);(case aF=>exact(fun k hk=>trivial));(case aO=>exact HV.out);(case aB=>exact HC.out);(case aS=>exact HC.out.size);(case aL=>omega);intro v1 w9 ho hb hg hat;have m0_:=Ya ho;have m1_:=Ya hb;clear HV HC ho hb hg hat b0 b1;have HV:=m0_;have HC:=m1_;clear m0_ m1_)|fail);go_roundw
      case rel=>exact⟨q - 1,U ++ [e],rfl,⟨by omega,by omega⟩,HU2,HV,HC⟩
      case measure=>simp[intOf]<;>omega
     ·have e1:decide (0≤q)=false:=Yw hq
      go_wp2_with fail;go_ret2;rw[HWR.out];refine⟨_,rfl,?_,Yk HB.out HC.out⟩;have h_:=HV.out;rw[HU.out,show (q+1).toNat=0 by omega,List.drop_zero,HOE.out,HBK0.out] at h_;exact Kd.R_lower h_ HB.out.size
   ·have e1:((x.v:Int) != (s:Int))=true:=by rw[bne_iff_ne];omega
    rcases HF.out.mem_lv hx with ⟨h1,_⟩|⟨_,hto,z,hz,hze,hlv⟩
    ·exact absurd h1 hxs
    obtain⟨i,hi⟩:=List.getElem?_of_mem hx;have hbk:backL (frP l) st s x.lv x.v=x.by_::backL (frP l) st s z.lv z.v:=by
     rw[hlv,backL,Yy hxs,fnd_of HF.out.nodup hx];show x.by_::_=_;rw[esL_fr _ _ hze]
    have hbi:(bY st)[i]? =some x.by_:=by unfold bY;rw[List.getElem?_map,hi];rfl
    obtain⟨b0,b1⟩:=y_cells (Ys HY.out HC.out) hbi;have hfm:=rfrom_ok HL.out (List.mem_filter.1 hze).1 (n0:Int) Zb;have hfr:stFrom l x.by_=(z.v:Int):=Yu (List.mem_filter.1 hze).2;rw[hfr] at hfm;obtain⟨K3,hK3⟩:=has_ev (nX st) (bY st) (x.v:Int) (by rw[nX_len];omega);have hh3:=hK3 K3 (Nat.le_refl _);rw[hasI_at HF.out.nodup hi] at hh3;obtain⟨k3,hk3⟩: ∃ k_,k_=K3:=⟨_,rfl⟩;rw[← hk3] at hh3;have HH3:=Ya hh3;obtain⟨e,hee⟩: ∃ e_,e_=x.by_:=⟨_,rfl⟩;rw[← hee] at b0 b1 hfm hbk;have HFM:=Ya hfm;have HBK2:Aside0 ((O ++ [e]) ++ backL (frP l) st s z.lv z.v=backL (frP l) st s x0.lv x0.v):=⟨by rw[← HBK.out,hbk,List.append_assoc];rfl⟩;have HZ:=Ya hz;have hl2:(O ++ [e]).length+z.lv≤50:=by rw[List.length_append,List.length_singleton];omega
    have HL2:=Ya hl2;have hOl:O.length≤50:=by omega
    have hmz:((dOf n0 st).getD z.v 0).toNat<((dOf n0 st).getD x.v 0).toNat:=by
     rw[dOf_mem HF.out.nodup hz 0 (fds_lt HF.out (esL_to HL.out) hs _ (List.mem_map_of_mem hz)),dOf_mem HF.out.nodup hx 0 hxn];omega
    have HMZ:=Ya hmz;have px:(0:Int)≤(i:Int):=by omega
    have qx:(i:Int)<((bY st).length:Int):=by rw[bY_len];have:=(List.getElem?_eq_some_iff.1 hi).1;omega
    obtain⟨t0,t1⟩:wr.cell? ⟨g10,0,none⟩=some (.slice (some ⟨gx,0,none⟩) (nX st).length cx)∧wr.cell? ⟨g10,1,none⟩=some (.slice (some ⟨gy,0,none⟩) (bY st).length cy):=⟨pw_cell_below HC.out ((Yc HW.out 0).trans rfl),pw_cell_below HC.out ((Yc HW.out 1).trans rfl)⟩;have H5:=Ya (Yt (Kd.R_reads' HX.out).2.2 HC.out);have H6:=Ya (Yt (Kd.R_reads' HY.out).2.2 HC.out);clear hz hze hlv hbk hfr hfm hee HBK hlen hl2 hmz hto hxs hi hbi hh3 hk3 hK3 K3;go_upto_region 7 with fail
    go_cut [13] (fun v13 wx=> ∃ g13:Nat,v13= .pointer (some ⟨g13,0,none⟩)∧wr.heap.size≤g13∧Aside0 (wx.heap[g13]? =some (.cells #[.int .i64 e.f0, .bool e.f1] 79 (0,0)))∧Aside0 (Below wr.heap.size wr wx))
    case first=>
     go_region_held3 (fun w'=>w'.cell? ⟨g10,0,none⟩=some (.slice (some ⟨gx,0,none⟩) (nX st).length cx)∧w'.cell? ⟨g10,1,none⟩=some (.slice (some ⟨gy,0,none⟩) (bY st).length cy)∧w'.cell? ⟨gy,i * 2,none⟩=some (.int .i64 e.f0)∧w'.cell? ⟨gy,i * 2+1,none⟩=some (.bool e.f1))
      (first|((try dsimp only);(refine⟨?_,?_,?_,?_⟩)<;>first|(exact pw_cell_below (below_drew (Yo _ _)) (by assumption))|(exact pw_cell_below (Ye (Yo _ _) _) (by assumption))|(exact pw_cell_below hbr (by assumption))|(exact pw_cell_below (Ye (Yk (below_drew (Yo wr.heap.size wr)) hbr) _) (by assumption))|(exact pw_cell_below (Ye (Yo wr.heap.size wr) _) (by assumption))|(exact pw_cell_below (Yk (below_drew (Ye (Yo wr.heap.size wr) _)) hbr) (by assumption))|(exact pw_cell_below (Yh (Yh (Yk (below_drew (Ye (Yo wr.heap.size wr) _)) hbr) (Nat.le_refl _)) (Nat.le_refl _)) (by assumption)))|go_keep)
      (first|(go_at_call 78;refine(ebbtideref08_found_has.calls k3 _ cx (nX st) _ cy (bY st) (x.v:Int) _ _ ?hX (Kd.R_reads' HX.out).2.1 ?hY (Kd.R_reads' HY.out).2.1 HH3.out).mono ?_;(case hX=>first|exact Yt H5.out (below_drew (Yo _ _))|exact Yt H5.out (below_drew (Ye (Yo _ _) _)));(case hY=>first|exact Yt H6.out (below_drew (Yo _ _))|exact Yt H6.out (below_drew (Ye (Yo _ _) _)));rintro e_ w9 ⟨rfl,hbr⟩;try (have hk9:w9.heap[wr.heap.size]? =some (.cells #[.int .i64 0, .bool false] 79 (0,0)):=(hbr.block _ (by simp)).trans (heap_alloc_new wr (.cells #[.int .i64 0, .bool false] 79));have kc0:=Yc hk9 0;have kc1:=Yc hk9 1;have kz0:=Yf hk9 0;have kz1:=Yf hk9 1)))
     ·go_wp2_with fail
      go_meet;exact⟨w9.heap.size,rfl,by have:=hbr.size;simpa using this,⟨heap_alloc_new w9 _⟩,⟨Ye (Yk (below_drew (Yo wr.heap.size wr)) hbr) _⟩⟩
     ·go_wp2_with fail
      go_meet;exact⟨wr.heap.size,rfl,Nat.le_refl _,⟨(blk_set (blk_set hk9 0 (.int .i64 e.f0)) 1 (.bool e.f1)).trans rfl⟩,⟨Yh (Yh (Yk (below_drew (Ye (Yo wr.heap.size wr) _)) hbr) (Nat.le_refl _)) (Nat.le_refl _)⟩⟩
    case rest=>
     obtain⟨g13,rfl,hg13,HG13,HBC⟩:=hcut;have m0_:=Ya (Yk HC.out HBC.out);have m1_:=Ya (Ys (Kd.R_mono (ok':=fun k=>k≠g13) (Kd.R_bound HO.out) (fun k hk=>by have:=hk.2.2.1;omega)) HBC.out);clear HC HO HBC t0 t1 b0 b1 H5 H6;have HC:=m0_;have HO:=m1_;clear m0_ m1_;have b0:wc.cell? ⟨g13,0,none⟩=some (.int .i64 e.f0):=(Yc HG13.out 0).trans rfl;have b1:wc.cell? ⟨g13,1,none⟩=some (.bool e.f1):=(Yc HG13.out 1).trans rfl;go_wp2_with (first|((with_reducible refine gate_builtin (b:= .append) (xs:= #[.tmp 35, .tmp 37]) rfl ?_);at_builtin;refine Kd.R_append k79 (w0:=w8) w8.heap.size rfl (.tmp 35) (.tmp 37) 67 79 (.agg #[(.int .i64 0),(.bool false)]) 16 rfl Try.underlying67 info79 rfl (by decide) (by omega) u11 O e [.int .i64 e.f0, .bool e.f1] (fun k=>k≠g13) (fun _=>False) rfl rfl ?aP (fun _ hk=>hk.elim) ?aF ?aO ?aB ?aS ?aL ?_;(case aP=>exact k79_mkM _ _ _ e);(case aF=>exact(fun k hk=>by have:=blk_lt HG13.out;omega));(case aO=>exact HO.out);(case aB=>exact HC.out);(case aS=>exact HC.out.size);(case aL=>omega);intro v1 w9 ho hb hg hat;have m0_:=Ya ho;have m1_:=Ya hb;have m2_:=Ya ((hg.block g13 (blk_lt HG13.out) (fun h=>HO.out.1 g13 h.symm rfl)).trans HG13.out);clear HO HC HG13 ho hb hg hat b0 b1;have HO:=m0_;have HC:=m1_;have HG13:=m2_;clear m0_ m1_ m2_;have b0:w9.cell? ⟨g13,0,none⟩=some (.int .i64 e.f0):=(Yc HG13.out 0).trans rfl;have b1:w9.cell? ⟨g13,1,none⟩=some (.bool e.f1):=(Yc HG13.out 1).trans rfl;have c0:w9.cell? ⟨g3,0,none⟩=some (.int .i64 n0):=pw_cell_below HC.out ((Yc B3.out 0).trans rfl);have c1:w9.cell? ⟨g3,1,none⟩=some (.bool Zb):=pw_cell_below HC.out ((Yc B3.out 1).trans rfl);have c2_:w9.cell? ⟨g3,2,none⟩=some (.slice A2 l.length c2):=pw_cell_below HC.out ((Yc B3.out 2).trans rfl))|(go_at_call 42;refine(ebbtideref07_From.calls (n0:Int) Zb A2 c2 l e.f0 e.f1 (z.v:Int) _ (Yt (Yt H2.out HB.out) HC.out) HC2.out HFM.out).mono ?_;rintro e_ w10 ⟨rfl,hb⟩;have m0_:=Ya (Yk HC.out hb);have m1_:=Ya (Ys HO.out hb);clear HC HO b0 b1 c0 c1 c2_ hb;have HC:=m0_;have HO:=m1_;clear m0_ m1_)|fail);go_roundw
     case rel=>exact⟨z,O ++ [e],rfl,HZ.out,HBK2,HL2.out,⟨Kd.R_mono HO.out (fun _ _=>trivial)⟩,HC⟩
     case measure=>have h_:=HMZ.out;simpa [intOf] using h_
 ·have e0:decide (hasI (nX st) t 0<0)=true:=Yv (by
   unfold hasI;rw[List.drop_zero,Yy hmem];omega)
  have HNO:Aside0 (wayRes l L n0 s t=([],false)):=⟨by unfold wayRes;rw[← HST.out,Yy hmem]⟩;clear hmem;go_wp2_with (first|(go_at_call 78;refine(ebbtideref08_found_has.calls KH _ cx (nX st) _ cy (bY st) _ _ _ (Kd.R_reads' HX.out).2.2 (Kd.R_reads' HX.out).2.1 (Kd.R_reads' HY.out).2.2 (Kd.R_reads' HY.out).2.1 HH.out).mono ?_;rintro e_ w8 ⟨rfl,hb⟩;have m0_:=Ya (Yk HB.out hb);have m1_:=Ya (Yn B3.out hb);have m2_:=Ya (Yn HW.out hb);have m3_:=Ya (Ys HX.out hb);have m4_:=Ya (Ys HY.out hb);clear HB B3 HW HX HY hb;have HB:=m0_;have B3:=m1_;have HW:=m2_;have HX:=m3_;have HY:=m4_;clear m0_ m1_ m2_ m3_ m4_;clear t0 t1)|fail);go_ret2;rw[HNO.out];exact⟨_,rfl,Kd.R_nil _ _ _ _ _,HB.out⟩
def wayF (n:Int) (l:List S50) (s t:Int) (L:List S79):Option (List S79 × Bool):=if wayOk n l L s=true then some (wayRes l L n.toNat s.toNat t) else none
theorem ebbtideref08_Way_calls (Zc:Int) (Zb:Bool) (Ze:Option Addr) (Zd:Nat) (Za:List S50) (a1 a2:Int) (A3:Option Addr) (c3:Nat) (l3:List S79) (r1:List S79) (r2:Bool) (w:World) (Zp:Kd.C k50 w Ze Za.length Za) (Zq:Za.length≤Zd) (hr3:Kd.C k79 w A3 l3.length l3) (hc3:l3.length≤c3) (h:wayF Zc Za a1 a2 l3=some (r1,r2)):
  Calls Try.prog 54 #[.agg #[.int .i64 Zc, .bool Zb, .slice Ze Za.length Zd], .int .i64 a1, .int .i64 a2, .slice A3 l3.length c3] w fun e w'=> ∃ v0_:Value,e= .returned (.tuple #[v0_, .bool r2])∧Kd.R k79 79 w' w.heap.size (fun _=>True) v0_ r1∧Below w.heap.size w w':=by
 unfold wayF at h;split at h
 ·rename_i hok
  obtain⟨n0,rfl⟩: ∃ n0:Nat,Zc=n0:=⟨Zc.toNat,by unfold wayOk at hok;simp only[Bool.and_eq_true,decide_eq_true_eq] at hok;omega⟩;obtain⟨s0,rfl⟩: ∃ s0:Nat,a1=s0:=⟨a1.toNat,by unfold wayOk at hok;simp only[Bool.and_eq_true,decide_eq_true_eq] at hok;omega⟩;obtain⟨h1,h2,h3⟩:=wayOk_iff.1 hok;injection h with h
  rw[Int.toNat_natCast,Int.toNat_natCast] at h;have h_:=way_ref n0 Zb Ze Zd Za s0 a2 A3 c3 l3 w h1 h2 h3 Zp Zq hr3 hc3;rw[h] at h_;exact h_
 ·cases h
theorem wayF_eq {n0:Nat} {l:List S50} {L:List S79} {s0:Nat} (h1:StepsOk l n0 L) (h2:s0<n0) (h3:n0≤50) (t:Int):wayF n0 l s0 t L=some (wayRes l L n0 s0 t):=by
 unfold wayF;rw[Yx (wayOk_iff.2 ⟨h1,h2,h3⟩),Int.toNat_natCast,Int.toNat_natCast]
end H
namespace P
attribute [local go_sem] max2_int min2_int max_two min_two max_three min_three max_four min_four
def ebbtideref08_Way.f (Zc:Int) (Zb:Bool) (Za:List (S50)) (a1:Int) (a2:Int) (l3:List (S79)):Option ((List (S79)) × Bool):=H.wayF Zc Za a1 a2 l3
theorem ebbtideref08_Way.calls (Zc:Int) (Zb:Bool) (Ze:Option Addr) (Zd:Nat) (Za:List (S50)) (a1:Int) (a2:Int) (A3:Option Addr) (c3:Nat) (l3:List (S79)) (r1:List (S79)) (r2:Bool) (w:World) (Zp:Kd.C k50 w Ze Za.length Za) (Zq:Za.length≤Zd) (hr3:Kd.C k79 w A3 l3.length l3) (hc3:l3.length≤c3) (h:ebbtideref08_Way.f Zc Zb Za a1 a2 l3=some (r1,r2)):
  Calls Try.prog 54 #[.agg #[.int .i64 Zc, .bool Zb, .slice Ze Za.length Zd], .int .i64 a1, .int .i64 a2, .slice A3 l3.length c3] w fun e w'=> ∃ v0_:Value,e= .returned (.tuple #[v0_, .bool r2])∧Kd.R k79 79 w' w.heap.size (fun _=>True) v0_ r1∧Below w.heap.size w w':=H.ebbtideref08_Way_calls Zc Zb Ze Zd Za a1 a2 A3 c3 l3 r1 r2 w Zp Zq hr3 hc3 h
end P
namespace H
open P
set_option maxHeartbeats 1000000 in
set_option maxRecDepth 100000 in
theorem insertion_nil (A:Option Addr) (cap:Nat) (f:Value) (w:World):
  Calls Try.prog 104 #[.slice A 0 cap, .int .i64 0, .int .i64 0,f] w fun e w'=>e= .returned (.tuple #[])∧w'=w:=by
 go_enter Try.func104,Try.ntmps104;go_wp2;go_loopw [8] (fun i wr=>i= .int .i64 1∧Aside0 (wr=w)) (fun i _=>0)
 case atStart=>exact⟨by go_num,⟨rfl⟩⟩
 case round=>
  obtain⟨rfl,HW⟩:=hrel;go_wp2;go_end0;exact⟨rfl,HW.out⟩
set_option maxHeartbeats 1000000 in
set_option maxRecDepth 100000 in
theorem stable_nil (A:Option Addr) (cap:Nat) (f:Value) (w:World):
  Calls Try.prog 98 #[.slice A 0 cap, .int .i64 0,f] w fun e w'=>e= .returned (.tuple #[])∧w'=w:=by
 go_enter Try.func98,Try.ntmps98;go_wp2_with fail;go_loopw [7,8] (fun va vb wr=>va= .int .i64 0∧vb= .int .i64 20∧Aside0 (wr=w)) (fun va _ _=>0)
 case atStart=>exact⟨by go_num,by go_num,⟨rfl⟩⟩
 case round=>
  obtain⟨rfl,rfl,HW⟩:=hrel;go_wp2_with fail;refine(insertion_nil A cap f _).mono ?_;rintro e1 w1 ⟨rfl,rfl⟩;go_wp2_with fail;go_loopw [6] (fun vs wr=>vs= .int .i64 20∧Aside0 (wr=w)) (fun vs _=>0)
  case atStart=>exact⟨by go_num,HW⟩
  case round=>
   clear HW;obtain⟨rfl,HW⟩:=hrel;go_wp2_with fail;go_end0;exact⟨rfl,HW.out⟩
theorem sortStable_nil (A:Option Addr) (cap:Nat) (f:Value) (w:World):
  Calls Try.prog 85 #[.slice A 0 cap,f] w fun e w'=>e= .returned (.tuple #[])∧w'=w:=by
 go_enter Try.func85,Try.ntmps85;go_wp2_with fail;refine(stable_nil A cap f w).mono ?_;rintro e1 w1 ⟨rfl,rfl⟩;go_wp2_with fail;go_end0;exact⟨rfl,rfl⟩
end H
namespace H
open P
theorem stL_nil {l:List S50} {n:Nat} {v:Int} (hv0:0≤v) (hv:v<n) (hE:ends l n) (h:stepsU l n v=[]):stL l v l.length=[]:=by
 refine List.eq_nil_iff_forall_not_mem.2 fun s hs=> ?_
 have:=(mem_stepsU l n v hv0 hv hE s).2 ((mem_stL l v l.length s).1 hs);rw[h] at this;cases this
theorem row_step (P:List S79) (L:List Int) (b:Bool) (j:Nat) (hj:j<L.length):P ++ (L.take (j+1)).map (fun i=>(⟨i,b⟩:S79))=(P ++ (L.take j).map (fun i=>(⟨i,b⟩:S79))) ++ [⟨rd L (j:Int),b⟩]:=by
 have e:L.take (j+1)=L.take j ++ [rd L (j:Int)]:=by
  rw[List.take_add_one,List.getElem?_eq_getElem hj];show _ ++ [L[j]]=_ ++ [L.getD (j:Int).toNat 0];rw[Int.toNat_natCast,List.getD_eq_getElem?_getD,List.getElem?_eq_getElem hj];rfl
 rw[e,List.map_append,List.append_assoc];rfl
theorem sort_row {w:World} {base go n co k N:Nat} {l:List S50} {X:List (List S79)} {oki:Nat→Prop} {A:Option Addr} {cr:Nat} {RW:List S79}
  (hH:Kd.H (Kd.slice 79 k79) 67 w base (fun _=>True) (.slice (some ⟨go,0,none⟩) n co) X (k:Int) oki [.slice A RW.length cr])
  (hR:Kd.R k79 79 w base oki (.slice A RW.length cr) RW) (hRW:RW=stepsU l N (k:Int)) (hk:k<N) (hE:ends l N) (hl:l.length≤1000000) (hlen:RW.length≤1000000):
  Calls Try.prog 85 #[.slice A RW.length cr, .func (.func 86) #[] #[]] w fun e w'=>e= .returned (.tuple #[])∧
   ∃ v:Value,w.grownBy w' v.ownBlock∧(∀ g,v.ownBlock=some g→base≤g∧ ∃ cells,w.heap[g]? =some (.cells cells 79 (0,0)))∧Kd.S (Kd.slice 79 k79) 67 w' base (fun _=>True) (.slice (some ⟨go,0,none⟩) n co) (X.set k (stL l k l.length)):=by
 have hk0:0≤(k:Int):=by omega
 have hkn:(k:Int)<N:=by omega
 by_cases hp:0<RW.length
 ·obtain⟨g,cap,e,hb,_,cells,hcl⟩:=Kd.R_form hR hp
  injection e with e1 _ e3
  subst e1;subst e3;have hA:=arr_of_R hR hp;refine(sortStable_calls g RW.length cr (fun i=>RW.getD i z79) w hA hlen ?_ ?_).mono ?_
  ·rw[hRW];exact stab_of_list (stab_stepsU l N (k:Int) hk0 hkn hE)
  ·rw[hRW];exact small_steps hk0 hkn hE hl
  ·rintro e w' ⟨rfl,⟨K,hK,hs⟩,hf⟩
   refine⟨rfl, .slice (some ⟨g,0,none⟩) RW.length cr,hf.1,fun g' hg'=> ?_,?_⟩
   ·have:g=g':=by simpa [Value.ownBlock] using hg'
    subst this;exact⟨hb,cells,hcl⟩
   ·have hoki:oki g:=hR.1 g rfl
    have hR':=R_of_arr hR rfl hp hK hf hoki;have hst:(List.range RW.length).map K=stL l k l.length:=by rw[hRW] at hs ⊢;exact sorted_is hk0 hkn hE hs
    rw[hst] at hR';have hS:=Kd.H_back (Kd.H_grown hH hf.1 (fun q hq=>by injection hq with hq;subst hq;exact hoki)) (x':=stL l k l.length) ⟨_,rfl,hR'⟩ (fun _ hk=>hk);rw[Int.toNat_natCast] at hS;exact hS
 ·have h0:RW=[]:=List.eq_nil_of_length_eq_zero (by omega)
  have hst:stL l k l.length=[]:=stL_nil hk0 hkn hE (by rw[← hRW];exact h0);subst h0;refine(sortStable_nil A cr _ w).mono ?_;rintro e w' ⟨rfl,rfl⟩;refine⟨rfl, .slice none 0 0,World.grownBy.refl _ _,fun g' hg'=>by simp[Value.ownBlock] at hg',?_⟩;rw[hst];have hS:=Kd.H_back hH (x':=([]:List S79)) ⟨_,rfl,hR⟩ (fun _ hk=>hk);rw[Int.toNat_natCast] at hS;exact hS
end H
end Go.Proofs.Ytoedkglggapggaa
