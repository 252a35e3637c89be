/- What the law's row needs of these texts, taken out of them by wip/tool/mini.py: QCutLaw QFlowLaw QLevelDef QSoughtLaw QSeekLaw QQueLaw QRawMem P58 QQueGrow QQuePut P55 P56 QRepeatWalk QLeast QSeekWalk QFarsWalk QWayRef P69 P70 P135 P133. -/
import Derived.Test.YtkcpanpdipmmmaaMhlcjga
import Derived.Test.YtkcpanpdipmmmaaMfcoohp
import Derived.Test.YtkcpanpdipmmmaaMgacmmg
import Derived.RegionTactic
import Derived.ChangeAlike
import Derived.BigRegion
import Derived.LoopTactic
import Derived.WalkKit
import Derived.WalkMore
import Derived.Deep.RegionHeld3
import Derived.Deep.RegionLaw
import Derived.Deep.AppendLies
import Derived.IntWalk
import Derived.Laws.IdiomCopy
import Derived.Laws.CopyOwn
import Derived.Test.YtkcpanpdipmmmaaProg
import Derived.Deep.DeepCutAuto
set_option linter.unusedVariables false
set_option linter.unusedSimpArgs false
namespace Go.Proofs.Ytkcpanpdipmmmaa.H
open Go.RowKit Go.Proofs.YtkcpanpdipmmmaaW.PrintWords Go.Proofs.YtkcpanpdipmmmaaW.PrintLast Go.Proofs.YtkcpanpdipmmmaaW.PrintMore Go.Proofs.Ytkcpanpdipmmmaa.P Go.Proofs.Ytkcpanpdipmmmaa.Q
def outR (R:Int→Bool):List S74→List Int→Int
 |a::l,x::f=>(if R a.f0 then x else 0) - (if R a.f1 then x else 0)+outR R l f
 |_,_=>0
theorem outR_cons (R:Int→Bool) (a:S74) (l:List S74) (x:Int) (f:List Int):outR R (a::l) (x::f)=(if R a.f0 then x else 0) - (if R a.f1 then x else 0)+outR R l f:=rfl
def capR (R:Int→Bool):List S74→Int
 |[]=>0
 |a::l=>(if R a.f0 && !R a.f1 then a.f2 else 0)+capR R l
theorem capR_cons (R:Int→Bool) (a:S74) (l:List S74):capR R (a::l)=(if R a.f0 && !R a.f1 then a.f2 else 0)+capR R l:=rfl
def sumR (R:Int→Bool) (g:Int→Int):Nat→Int
 |0=>0
 |n+1=>sumR R g n+(if R n then g n else 0)
theorem sumR_add (R:Int→Bool) (g h:Int→Int) (n:Nat):sumR R (fun v=>g v+h v) n=sumR R g n+sumR R h n:=by
 induction n with
 |zero=>rfl
 |succ n ih=>unfold sumR;rw[ih];split<;>omega
theorem sumR_one (R:Int→Bool) (a x:Int) (n:Nat) (h0:0≤a) (h1:a<n):sumR R (fun v=>if a=v then x else 0) n=if R a then x else 0:=by
 have aux: ∀ m:Nat,sumR R (fun v=>if a=v then x else 0) m=if a<m then(if R a then x else 0) else 0:=by
  intro m
  induction m with
  |zero=>rw[if_neg (by omega)];rfl
  |succ m ih=>
   unfold sumR
   rw[ih]
   show _+(if R m then(if a=(m:Int) then x else 0) else 0)=_
   by_cases e:a=(m:Int)
   ·subst e
    rw[if_neg (Int.lt_irrefl _),if_pos (show (m:Int)<((m+1:Nat):Int) by omega),if_pos rfl]
    omega
   ·have e2:(if R m then(if a=(m:Int) then x else 0) else 0)=0:=by rw[if_neg e];split<;>rfl
    rw[e2]
    by_cases hm:a<(m:Int)
    ·rw[if_pos hm,if_pos (show a<((m+1:Nat):Int) by omega)]
     omega
    ·rw[if_neg hm,if_neg (show ¬ a<((m+1:Nat):Int) by omega)]
     omega
 rw[aux,if_pos h1]
theorem sumR_zero (R:Int→Bool) (n:Nat):sumR R (fun _=>0) n=0:=by
 induction n with
 |zero=>rfl
 |succ n ih=>unfold sumR;rw[ih];simp
theorem sumR_neg (R:Int→Bool) (g:Int→Int) (n:Nat):sumR R (fun v=> -g v) n= -sumR R g n:=by
 induction n with
 |zero=>rfl
 |succ n ih=>unfold sumR;rw[ih];split<;>omega
theorem sum_bal (R:Int→Bool) (n:Nat): ∀ (l:List S74) (f:List Int),(∀ a,a∈l→(0≤a.f0∧a.f0<n)∧0≤a.f1∧a.f1<n)→f.length=l.length→sumR R (bal l f) n=outR R l f
 |[],[],_,_=>by
  have e:bal ([]:List S74) []=fun _=>0:=rfl
  rw[e,sumR_zero]
  rfl
 |[],_::_,_,h=>by simp at h
 |_::_,[],_,h=>by simp at h
 |a::l,x::f,h,hl=>by
  obtain⟨⟨h1,h2⟩,h3,h4⟩:=h a List.mem_cons_self
  have e:bal (a::l) (x::f)=fun v=>((if a.f0=v then x else 0)+ -(if a.f1=v then x else 0))+bal l f v:=by
   funext v
   rw[bal_cons]
   omega
  rw[e,sumR_add,sumR_add,sumR_one R _ x n h1 h2,sumR_neg,sumR_one R _ x n h3 h4,sum_bal R n l f (fun b hb=>h b (List.mem_cons_of_mem _ hb)) (by simpa using hl),outR_cons]
  omega
theorem sumR_ends {R:Int→Bool} {g:Int→Int} {s t:Int} (n:Nat) (hs:R s=true) (ht:R t=false) (h0:0≤s) (h1:s<n) (hg: ∀ v:Int,0≤v→v<n→v≠s→v≠t→g v=0):sumR R g n=g s:=by
 have aux: ∀ m:Nat,m≤n→sumR R g m=if s<m then g s else 0:=by
  intro m
  induction m with
  |zero=>intro _;rw[if_neg (by omega)];rfl
  |succ m ih=>
   intro hm
   unfold sumR
   rw[ih (by omega)]
   show _+(if R m then g m else 0)=_
   by_cases e:s=(m:Int)
   ·subst e
    rw[if_neg (Int.lt_irrefl _),if_pos hs,if_pos (show (m:Int)<((m+1:Nat):Int) by omega)]
    omega
   ·have e2:(if R m then g m else 0)=0:=by
     by_cases e3:t=(m:Int)
     ·rw[← e3,ht];rfl
     ·rw[hg m (by omega) (by omega) (Ne.symm e) (Ne.symm e3)];split<;>rfl
    rw[e2]
    by_cases h:s<(m:Int)
    ·rw[if_pos h,if_pos (show s<((m+1:Nat):Int) by omega)];omega
    ·rw[if_neg h,if_neg (show ¬ s<((m+1:Nat):Int) by omega)];omega
 rw[aux n (Nat.le_refl _),if_pos h1]
theorem outR_le (R:Int→Bool): ∀ (l:List S74) (f:List Int),flowB l f=true→outR R l f≤capR R l
 |[],[],_=>by simp[outR,capR]
 |[],_::_,h=>by simp[flowB] at h
 |_::_,[],h=>by simp[flowB] at h
 |a::l,x::f,h=>by
  unfold flowB at h
  split at h
  ·cases h
  ·split at h
   ·cases h
   ·have:=outR_le R l f h
    rw[outR_cons,capR_cons]
    cases R a.f0<;>cases R a.f1<;>simp<;>omega
def Tightly (R:Int→Bool) (l:List S74) (f:List Int):Prop:= ∀ i:Nat,i<l.length→(R (rd_T74 l i).f0=true→R (rd_T74 l i).f1=false→f.getD i 0=(rd_T74 l i).f2)∧(R (rd_T74 l i).f0=false→R (rd_T74 l i).f1=true→f.getD i 0=0)
theorem outR_eq (R:Int→Bool): ∀ (l:List S74) (f:List Int),f.length=l.length→Tightly R l f→outR R l f=capR R l
 |[],[],_,_=>by simp[outR,capR]
 |[],_::_,h,_=>by simp at h
 |_::_,[],h,_=>by simp at h
 |a::l,x::f,h,ht=>by
  have h0:=ht 0 (by simp)
  have e:rd_T74 (a::l) ((0:Nat):Int)=a:=rfl
  rw[e] at h0
  simp only[List.getD_cons_zero] at h0
  have ih:=outR_eq R l f (by simpa using h) (fun i hi=>by
   have h1:=ht (i+1) (by simp;omega)
   have e:rd_T74 (a::l) ((i+1:Nat):Int)=rd_T74 l (i:Int):=by rw[rdArc_nat,rdArc_nat];rfl
   rw[e] at h1
   simpa using h1)
  rw[outR_cons,ih,capR_cons]
  cases h1:R a.f0<;>cases h2:R a.f1
  ·simp
  ·have:=h0.2 h1 h2;simp[this]
  ·have:=h0.1 h1 h2;simp[this]
  ·simp
structure IsFlow (l:List S74) (F:List Int) (n:Nat) (s t:Int):Prop where
 right:Right l F n
 keeps: ∀ v:Int,0≤v→v<n→v≠s→v≠t→bal l F v=0
theorem ends_arcs {l:List S74} {n:Nat} (h:ends l n): ∀ a,a∈l→(0≤a.f0∧a.f0<n)∧0≤a.f1∧a.f1<n:=by
 intro a ha
 obtain⟨i,hi,e⟩:=List.getElem_of_mem ha
 have h1:=h i hi
 unfold eFrom eTo at h1
 rw[rdArc_nat,List.getD_eq_getElem?_getD,List.getElem?_eq_getElem hi] at h1
 have e2:(some l[i]).getD z74=a:=e
 rw[e2] at h1
 exact h1
theorem Right.flowB {l:List S74} {F:List Int} {n:Nat} (h:Right l F n):flowB l F=true:=by
 have hl:=h.len
 refine flow_mk hl fun i hi=> ?_
 have:=h.nums i (by omega)
 rw[rdArc_nat] at this
 exact⟨this.2.2.1,this.2.2.2.1⟩
theorem value_le {l:List S74} {F:List Int} {n:Nat} {s t:Int} (h:IsFlow l F n s t) (R:Int→Bool) (hs:R s=true) (ht:R t=false) (h0:0≤s) (h1:s<n):bal l F s≤capR R l:=by
 rw[← sumR_ends n hs ht h0 h1 h.keeps,sum_bal R n l F (ends_arcs h.right.ends) h.right.len]
 exact outR_le R l F h.right.flowB
theorem value_eq {l:List S74} {F:List Int} {n:Nat} {s t:Int} (h:IsFlow l F n s t) (R:Int→Bool) (hs:R s=true) (ht:R t=false) (h0:0≤s) (h1:s<n)
  (hR: ∀ e:S38,StepOf l e→0<stRoom l F e→R (stFrom l e)=true→R (stTo l e)=true):bal l F s=capR R l:=by
 rw[← sumR_ends n hs ht h0 h1 h.keeps,sum_bal R n l F (ends_arcs h.right.ends) h.right.len]
 refine outR_eq R l F h.right.len fun i hi=> ?_
 have hn:=h.right.nums i hi
 have hf:=hR ⟨i,false⟩ ⟨i,hi,rfl⟩
 have hb:=hR ⟨i,true⟩ ⟨i,hi,rfl⟩
 unfold stRoom stFrom stTo eFrom eTo at hf hb
 simp only[Bool.false_eq_true,if_false,if_true,Int.toNat_natCast] at hf hb
 refine⟨fun a b=> ?_,fun a b=> ?_⟩
 ·have: ¬ 0<(rd_T74 l i).f2 - F.getD i 0:=fun g=>by have:=hf g a;rw[b] at this;cases this
  omega
 ·have: ¬ 0<F.getD i 0:=fun g=>by have:=hb g b;rw[a] at this;cases this
  omega
theorem capR_top (R:Int→Bool): ∀ (l:List S74),(∀ a,a∈l→0≤a.f2∧a.f2≤1048576)→0≤capR R l∧capR R l≤1048576 * l.length
 |[],_=>by simp[capR]
 |a::l,h=>by
  have h1:=h a List.mem_cons_self
  have h2:=capR_top R l fun b hb=>h b (List.mem_cons_of_mem _ hb)
  rw[List.length_cons,capR_cons]
  split<;>omega
theorem Right.caps {l:List S74} {F:List Int} {n:Nat} (h:Right l F n): ∀ a,a∈l→0≤a.f2∧a.f2≤1048576:=by
 intro a ha
 obtain⟨i,hi,e⟩:=List.getElem_of_mem ha
 have h1:=h.nums i hi
 rw[rdArc_nat,List.getD_eq_getElem?_getD,List.getElem?_eq_getElem hi] at h1
 have e2:(some l[i]).getD z74=a:=e
 rw[e2] at h1
 omega
end Go.Proofs.Ytkcpanpdipmmmaa.H
namespace Go.Proofs.Ytkcpanpdipmmmaa.H
open Go.RowKit Go.Proofs.YtkcpanpdipmmmaaW.PrintWords Go.Proofs.YtkcpanpdipmmmaaW.PrintLast Go.Proofs.YtkcpanpdipmmmaaW.PrintMore Go.Proofs.Ytkcpanpdipmmmaa.P Go.Proofs.Ytkcpanpdipmmmaa.Q
def esP (l:List S74) (F:List Int) (u:Nat):List S38:=(stL l u l.length).filter fun e=>decide (0<stRoom l F e)
def toP (l:List S74) (e:S38):Nat:=(stTo l e).toNat
def frP (l:List S74) (e:S38):Nat:=(stFrom l e).toNat
def bfP (l:List S74) (F:List Int) (n s:Nat):List (Fd S38):=bfsN (toP l) (esP l F) z38 n s
theorem mem_esP {l:List S74} {F:List Int} {u:Nat} {e:S38} :e∈esP l F u↔e∈stL l u l.length∧0<stRoom l F e:=by
 unfold esP;rw[List.mem_filter,decide_eq_true_eq]
theorem frP_of {l:List S74} {u:Nat} {e:S38} (h:e∈stL l u l.length):frP l e=u:=by
 unfold frP;rw[stL_from h,Int.toNat_natCast]
theorem toP_lt {l:List S74} {F:List Int} {n:Nat} (hr:Right l F n) {s:S38} (hs:StepOf l s):toP l s<n:=by
 have:=stTo_in hr hs;unfold toP;omega
theorem esP_to {l:List S74} {F:List Int} {n:Nat} (hr:Right l F n): ∀ (u:Nat) (e:S38),e∈esP l F u→toP l e<n:=fun u e he=>toP_lt hr (stL_of (mem_esP.1 he).1)
theorem esP_fr {l:List S74} {F:List Int} : ∀ (u:Nat) (e:S38),e∈esP l F u→frP l e=u:=fun u e he=>frP_of (mem_esP.1 he).1
theorem esP_of {l:List S74} {F:List Int} {n:Nat} (hr:Right l F n) {e:S38} (hs:StepOf l e) (h:0<stRoom l F e):e∈esP l F (frP l e):=by
 refine mem_esP.2 ⟨?_,h⟩
 have hf:=stFrom_in hr hs
 rw[mem_stL]
 unfold frP
 rw[Int.toNat_of_nonneg hf.1]
 obtain⟨i,h1,h2⟩:=hs
 refine⟨i,h1,h2,?_⟩
 unfold stFrom
 rw[h2]
 cases e.f1
 ·exact .inl ⟨rfl,rfl⟩
 ·exact .inr ⟨rfl,rfl⟩
theorem bfP_upto {l:List S74} {F:List Int} {n s:Nat} (hr:Right l F n) (hs:s<n):Upto (frP l) (toP l) (esP l F) s (bfP l F n s).length (bfP l F n s):=bfsN_upto (esP_to hr) hs
theorem bfP_head {l:List S74} {F:List Int} {n s:Nat} (hr:Right l F n) (hs:s<n): ∃ x,x∈bfP l F n s∧x.v=s∧x.lv=0:=by
 obtain⟨x,r,h1,h2,h3⟩:=(bfP_upto hr hs).fds.head
 exact⟨x,by rw[h1];exact List.mem_cons_self,h2,h3⟩
def netG (l:List S74) (F D:List Int):Net_ S38:=⟨fun v=>stL l v l.length,toP l,frP l,fun v=>D.getD v 0,fun e=>decide (0<stRoom l F e)⟩
theorem netG_fine {l:List S74} {F F0:List Int} {n s:Nat} (hr:Right l F0 n) (hs:s<n):(netG l F (dOf n (bfP l F0 n s))).Fine s n:=by
 have hu:=bfP_upto hr hs
 refine⟨fun u e he=>frP_of he,fun u e he=>toP_lt hr (stL_of he),hs,?_,fun v hv=> ?_⟩
 ·obtain⟨x,h1,h2,h3⟩:=bfP_head hr hs
  show (dOf n _).getD s 0=0
  have h4:=dOf_mem hu.fds.nodup h1 0 (by rw[h2];exact hs)
  rw[h2,h3] at h4
  exact h4
 ·show (dOf n _).getD v 0<n
  rw[dOf_get _ _ hv]
  cases hf:fnd (bfP l F0 n s) v with
  |none=>simp only;omega
  |some x=>
   have h1:=lv_lt hu.fds (fnd_some hf).1
   have h2:=fds_len hu.fds (esP_to hr) hs
   simp only
   omega
def phaseF (l:List S74) (D:List Int) (s t:Nat):Nat→List Int→List Nat→List Int
 |0,F,_=>F
 |k+1,F,nx=>match downG (netG l F D) s t 2000000 s [] nx with
  |(none,_)=>F
  |(some L,nx')=>phaseF l D s t k (pushW F (leastR l F L) L) nx'
def refillF (l:List S74) (n s t:Nat):Nat→List Int→List Int
 |0,F=>F
 |k+1,F=>if (dOf n (bfP l F n s)).getD t 0<0 then F else refillF l n s t k (phaseF l (dOf n (bfP l F n s)) s t 300000000 F (List.replicate n 0))
def fillF (l:List S74) (n s t:Nat):List Int:=refillF l n s t 300000000 (List.replicate l.length 0)
theorem remG_le (g:Net_ S38) (nx:List Nat) (h: ∀ v,(g.rows v).length≤400) (n:Nat):remG g nx n≤400 * n:=by
 induction n with
 |zero=>exact Nat.le_refl _
 |succ n ih=>unfold remG;have:=h n;omega
theorem downM_lt {l:List S74} {F D:List Int} {n v:Nat} (h:l.length≤200) (hn:n≤50) (nx:List Nat):downM (netG l F D) n v nx<2000000:=by
 have h1:=remG_le (netG l F D) nx (fun v=>by have:=stL_len l v l.length;show (stL l v l.length).length≤400;omega) n
 have h2:remG (netG l F D) nx n * (n+1)≤20000 * 51:=Nat.mul_le_mul (by omega) (by omega)
 unfold downM
 omega
theorem leads_trail {l:List S74} {F:List Int} {n:Nat} (hr:Right l F n) {rows:Nat→List S38} (hrows: ∀ u e,e∈rows u→e∈stL l u l.length): ∀ {L:List S38} {s t:Nat},Leads (toP l) rows s L t→Trail l s L t
 |[],s,t,h=>by cases h;rfl
 |x::L,s,t,h=>by
  have hx:=hrows _ _ h.1
  refine⟨stL_of hx,stL_from hx,?_⟩
  have h1:=stTo_in hr (stL_of hx)
  have h2:=leads_trail hr hrows h.2
  unfold toP at h2
  rw[Int.toNat_of_nonneg h1.1] at h2
  exact h2
structure NxOk (l:List S74) (n:Nat) (nx:List Nat):Prop where
 len:nx.length=n
 le: ∀ u,u<n→nx.getD u 0≤(stL l u l.length).length
theorem nx_zero (l:List S74) (n:Nat):NxOk l n (List.replicate n 0):=
 ⟨by simp,fun u hu=>by rw[List.getD_eq_getElem?_getD,List.getElem?_replicate,if_pos hu];exact Nat.zero_le _⟩
theorem dinv_start {l:List S74} {F D:List Int} {n s:Nat} {nx:List Nat} (hs:s<n) (h:NxOk l n nx):DInv (netG l F D) s n s [] nx:=
 ⟨hs,h.len,h.le,rfl,fun e he=>(by cases he),fun e he=>(by cases he)⟩
theorem push_found {l:List S74} {F F0:List Int} {n s t:Nat} (hf:IsFlow l F n s t) (hr0:Right l F0 n) (hs:s<n) (hst:s≠t) {L:List S38}
  (hL:Leads (toP l) (fun v=>stL l v l.length) s L t) (ha: ∀ e,e∈L→(netG l F (dOf n (bfP l F0 n s))).adm (frP l e) e=true):
  IsFlow l (pushW F (leastR l F L) L) n s t∧1≤leastR l F L∧L≠[]∧bal l (pushW F (leastR l F L) L) s=bal l F s+leastR l F L∧L.Pairwise (fun a b=>a.f0≠b.f0)∧(∀ s,s∈L→StepOf l s)∧leastR l F L≤1048576:=by
 have hne:L≠[]:=by rintro rfl;exact hst hL
 have htr:=leads_trail hf.right (rows:=fun v=>stL l v l.length) (fun _ _ h=>h) hL
 have hroom: ∀ e,e∈L→0<stRoom l F e:=fun e he=>of_decide_eq_true (adm_lv (ha e he)).2
 obtain⟨m,hm,hle⟩:=leastR_in (l:=l) (F:=F) hne
 have h1:1≤leastR l F L:=by rw[hle];exact hroom m hm
 have hap:=(rises_apart (l:=l) (fun v=>(dOf n (bfP l F0 n s)).getD v.toNat 0) htr (fun e he=>(adm_lv (ha e he)).1)).1
 have hr:=Right.pushW (k:=leastR l F L) (by omega) L hf.right (fun e he=>⟨htr.of e he,leastR_le he⟩) hap
 have hb:=fun v=>bal_pushW (leastR l F L) v hf.right.len htr
 have hmx:=(stRoom_in hf.right (htr.of m hm)).2
 refine⟨⟨hr,fun v h0 h1 h2 h3=> ?_⟩,h1,hne,?_,hap,htr.of,by omega⟩
 ·rw[hb,if_neg h2,if_neg h3,hf.keeps v h0 h1 h2 h3];rfl
 ·rw[hb,if_pos rfl,if_neg (by omega)];omega
theorem flow_top {l:List S74} {F:List Int} {n s t:Nat} (hf:IsFlow l F n s t) (hs:s<n) (hst:s≠t):bal l F s≤209715200:=by
 have h1:=value_le hf (fun v=>decide (v=(s:Int))) (by simp) (by simp;omega) (by omega) (by omega)
 have h2:=capR_top (fun v=>decide (v=(s:Int))) l hf.right.caps
 have h3:=hf.right.arcs
 have h4:1048576 * (l.length:Int)≤1048576 * 200:=by omega
 omega
structure PhaseOk (l:List S74) (F0:List Int) (n s t:Nat) (F:List Int):Prop where
 flow:IsFlow l F n s t
 more:bal l F0 s≤bal l F s
theorem phase_step {l:List S74} {F D:List Int} {s t k:Nat} {nx nx':List Nat} {L:List S38} (h:downG (netG l F D) s t 2000000 s [] nx=(some L,nx')):phaseF l D s t (k+1) F nx=phaseF l D s t k (pushW F (leastR l F L) L) nx':=by
 show (match downG (netG l F D) s t 2000000 s [] nx with|(none,_)=>F|(some L,nx')=>phaseF l D s t k (pushW F (leastR l F L) L) nx')=_
 rw[h]
theorem phase_end {l:List S74} {F D:List Int} {s t k:Nat} {nx nx':List Nat} (h:downG (netG l F D) s t 2000000 s [] nx=(none,nx')):phaseF l D s t (k+1) F nx=F:=by
 show (match downG (netG l F D) s t 2000000 s [] nx with|(none,_)=>F|(some L,nx')=>phaseF l D s t k (pushW F (leastR l F L) L) nx')=_
 rw[h]
theorem phase_flow {l:List S74} {F0:List Int} {n s t:Nat} (hr0:Right l F0 n) (hs:s<n) (hst:s≠t) (k:Nat): ∀ {F:List Int} {nx:List Nat},IsFlow l F n s t→NxOk l n nx→PhaseOk l F n s t (phaseF l (dOf n (bfP l F0 n s)) s t k F nx):=by
 induction k with
 |zero=>intro F nx hf _;exact⟨hf,Int.le_refl _⟩
 |succ k ih=>
  intro F nx hf hnx
  have hfd:=downG_found (t:=t) (netG_fine (F:=F) hr0 hs) 2000000 (dinv_start (F:=F) (D:=dOf n (bfP l F0 n s)) hs hnx) (downM_lt hf.right.arcs hf.right.fifty nx)
  cases hd:downG (netG l F (dOf n (bfP l F0 n s))) s t 2000000 s [] nx with
  |mk r nx'=>
   rw[hd] at hfd
   cases r with
   |none=>rw[phase_end hd];exact⟨hf,Int.le_refl _⟩
   |some L=>
    rw[phase_step hd]
    obtain⟨h1,h2⟩:=hfd.way L rfl
    obtain⟨p1,p2,p3,p4,_⟩:=push_found hf hr0 hs hst h1 h2
    obtain⟨q1,q2⟩:=ih (nx:=nx') p1 ⟨hfd.len,hfd.le⟩
    exact⟨q1,by omega⟩
theorem phase_first {l:List S74} {F:List Int} {n s t:Nat} (hr:Right l F n) (hs:s<n) (ht:t<n) (hst:s≠t) (hd:0≤(dOf n (bfP l F n s)).getD t 0): ∃ L nx',downG (netG l F (dOf n (bfP l F n s))) s t 2000000 s [] (List.replicate n 0)=(some L,nx'):=by
 have hu:=bfP_upto hr hs
 have hfine:=netG_fine (F:=F) hr hs
 have hi:=dinv_start (F:=F) (D:=dOf n (bfP l F n s)) hs (nx_zero l n)
 have hfd:=downG_found (t:=t) hfine 2000000 hi (downM_lt hr.arcs hr.fifty _)
 have hdd:=downG_dead (t:=t) hfine 2000000 hi (downM_lt hr.arcs hr.fifty _) (fun u hu j hj=>by
  rw[List.getD_eq_getElem?_getD,List.getElem?_replicate,if_pos hu] at hj
  exact absurd hj (Nat.not_lt_zero _))
 cases he:downG (netG l F (dOf n (bfP l F n s))) s t 2000000 s [] (List.replicate n 0) with
 |mk r nx'=>
  cases r with
  |some L=>exact⟨L,nx',rfl⟩
  |none=>
   exfalso
   rw[he] at hfd hdd
   have hmem:t∈nodes (bfP l F n s):=Classical.byContradiction fun h=>by have:=(dOf_neg (bfP l F n s) 0 ht).2 h;omega
   obtain⟨x,hx,hxv⟩:=List.mem_map.1 hmem
   have hle:=Nat.le_of_lt (lv_lt hu.fds hx)
   obtain⟨_,hle2⟩:=backL_spec hu.fds esP_fr (bfP l F n s).length hx hle
   have hlv:=backL_lv hu.fds esP_fr (bfP l F n s).length hx
   rw[hxv] at hle2 hlv
   have hmono: ∀ {L:List S38} {a b:Nat},Leads (toP l) (esP l F) a L b→Leads (toP l) (fun v=>stL l v l.length) a L b:=by
    intro L
    induction L with
    |nil=>intro a b h;exact h
    |cons y L ih=>intro a b h;exact⟨(mem_esP.1 h.1).1,ih h.2⟩
   refine dead_way (g:=netG l F (dOf n (bfP l F n s))) hfine.hfr hdd (hmono hle2) (fun e hein=> ?_) ⟨hst,hs,hfd.none_ rfl⟩
   obtain⟨y,z,hy,hz,h1,h2,h3,h4⟩:=hlv e (List.mem_reverse.1 hein)
   have hln:=fds_lt hu.fds (esP_to hr) hs
   have g1:(dOf n (bfP l F n s)).getD (toP l e) 0=y.lv:=by rw[← h1];exact dOf_mem hu.fds.nodup hy 0 (hln _ (List.mem_map_of_mem hy))
   have g2:(dOf n (bfP l F n s)).getD (frP l e) 0=z.lv:=by rw[← h2];exact dOf_mem hu.fds.nodup hz 0 (hln _ (List.mem_map_of_mem hz))
   show (decide ((dOf n (bfP l F n s)).getD (toP l e) 0=(dOf n (bfP l F n s)).getD (frP l e) 0+1) && decide (0<stRoom l F e))=true
   rw[g1,g2,Bool.and_eq_true,decide_eq_true_eq,decide_eq_true_eq]
   exact⟨by omega,(mem_esP.1 h4).2⟩
theorem phase_grows {l:List S74} {F:List Int} {n s t:Nat} (hf:IsFlow l F n s t) (hs:s<n) (ht:t<n) (hst:s≠t) (hd:0≤(dOf n (bfP l F n s)).getD t 0) (k:Nat):
  IsFlow l (phaseF l (dOf n (bfP l F n s)) s t (k+1) F (List.replicate n 0)) n s t∧bal l F s+1≤bal l (phaseF l (dOf n (bfP l F n s)) s t (k+1) F (List.replicate n 0)) s:=by
 obtain⟨L,nx',he⟩:=phase_first hf.right hs ht hst hd
 have hfd:=downG_found (t:=t) (netG_fine (F:=F) hf.right hs) 2000000 (dinv_start (F:=F) (D:=dOf n (bfP l F n s)) hs (nx_zero l n)) (downM_lt hf.right.arcs hf.right.fifty _)
 rw[he] at hfd
 rw[phase_step he]
 obtain⟨h1,h2⟩:=hfd.way L rfl
 obtain⟨p1,p2,p3,p4,_⟩:=push_found hf hf.right hs hst h1 h2
 obtain⟨q1,q2⟩:=phase_flow hf.right hs hst k (nx:=nx') p1 ⟨hfd.len,hfd.le⟩
 exact⟨q1,by omega⟩
structure MaxF (l:List S74) (F:List Int) (n s t:Nat):Prop where
 flow:IsFlow l F n s t
 cut:t ∉ nodes (bfP l F n s)
theorem refill_max {l:List S74} {n s t:Nat} (hs:s<n) (ht:t<n) (hst:s≠t) (k:Nat): ∀ {F:List Int},IsFlow l F n s t→209715200 - bal l F s<k→MaxF l (refillF l n s t k F) n s t:=by
 induction k with
 |zero=>intro F hf hk;have:=flow_top hf hs hst;omega
 |succ k ih=>
  intro F hf hk
  unfold refillF
  by_cases h:(dOf n (bfP l F n s)).getD t 0<0
  ·rw[if_pos h]
   exact⟨hf,(dOf_neg _ _ ht).1 h⟩
  ·rw[if_neg h]
   obtain⟨h1,h2⟩:=phase_grows hf hs ht hst (by omega) 299999999
   rw[show 299999999+1=300000000 from rfl] at h1 h2
   exact ih h1 (by omega)
theorem zeros_flow {l:List S74} {n s t:Nat} (h0:0<n) (h50:n≤50) (hl:l.length≤200) (he:ends l n) (hn: ∀ i:Nat,i<l.length→0≤(rd_T74 l i).f3∧(rd_T74 l i).f3≤1048576∧0≤(rd_T74 l i).f2∧(rd_T74 l i).f2≤1048576):
  IsFlow l (List.replicate l.length 0) n s t∧bal l (List.replicate l.length 0) s=0:=by
 have hz: ∀ (l:List S74) (v:Int),bal l (List.replicate l.length 0) v=0:=by
  intro l v
  induction l with
  |nil=>rfl
  |cons a l ih=>rw[List.length_cons,List.replicate_succ,bal_cons,ih];split<;>split<;>rfl
 refine⟨⟨⟨h0,h50,hl,by simp,he,fun i hi=> ?_⟩,fun v _ _ _ _=>hz l v⟩,hz l _⟩
 have:=hn i hi
 have e:(List.replicate l.length (0:Int)).getD i 0=0:=by rw[List.getD_eq_getElem?_getD,List.getElem?_replicate,if_pos hi];rfl
 rw[e]
 omega
def sideP (l:List S74) (F:List Int) (n s:Nat) (v:Int):Bool:=decide (0≤v∧v.toNat∈nodes (bfP l F n s))
theorem side_closed {l:List S74} {F:List Int} {n s:Nat} (hr:Right l F n) (hs:s<n): ∀ e:S38,StepOf l e→0<stRoom l F e→sideP l F n s (stFrom l e)=true→sideP l F n s (stTo l e)=true:=by
 intro e he hroom h
 unfold sideP at h ⊢
 rw[decide_eq_true_eq] at h ⊢
 obtain⟨x,hx,hxv⟩:=List.mem_map.1 h.2
 have h1:=esP_of hr he hroom
 have h2:frP l e=x.v:=hxv.symm
 rw[h2] at h1
 obtain⟨y,hy,h3,_⟩:=bfsN_closed (z:=z38) (esP_to hr) hs hx h1
 have h4:=stTo_in hr he
 exact⟨h4.1,List.mem_map.2 ⟨y,hy,h3⟩⟩
theorem max_value {l:List S74} {F:List Int} {n s t:Nat} (h:MaxF l F n s t) (hs:s<n) (hst:s≠t):bal l F s=capR (sideP l F n s) l∧sideP l F n s s=true∧sideP l F n s t=false:=by
 have h1:sideP l F n s s=true:=by
  obtain⟨x,hx,hxv,_⟩:=bfP_head h.flow.right hs
  unfold sideP
  rw[decide_eq_true_eq]
  exact⟨by omega,by rw[Int.toNat_natCast];exact List.mem_map.2 ⟨x,hx,hxv⟩⟩
 have h2:sideP l F n s t=false:=by
  unfold sideP
  rw[decide_eq_false_iff_not,Int.toNat_natCast]
  exact fun g=>h.cut g.2
 exact⟨value_eq h.flow _ h1 h2 (by omega) (by omega) (side_closed h.flow.right hs),h1,h2⟩
theorem max_top {l:List S74} {F G:List Int} {n s t:Nat} (h:MaxF l F n s t) (hs:s<n) (hst:s≠t) (hg:IsFlow l G n s t):bal l G s≤bal l F s:=by
 obtain⟨h1,h2,h3⟩:=max_value h hs hst
 rw[h1]
 exact value_le hg _ h2 h3 (by omega) (by omega)
end Go.Proofs.Ytkcpanpdipmmmaa.H
namespace Go.Proofs.Ytkcpanpdipmmmaa.H
open Go.RowKit Go.Proofs.YtkcpanpdipmmmaaW.PrintWords Go.Proofs.YtkcpanpdipmmmaaW.PrintLast Go.Proofs.YtkcpanpdipmmmaaW.PrintMore Go.Proofs.Ytkcpanpdipmmmaa.P Go.Proofs.Ytkcpanpdipmmmaa.Q
def wayP (l:List S74) (F:List Int) (n s t:Nat):List S38:=if t∈nodes (bfP l F n s) then wayL (frP l) (bfP l F n s) s t else []
def endsErr (n:Int) (l:List S74) (s t:Int):Int:=if netErr n l=0 then(if 0≤s∧s<n∧0≤t∧t<n∧s≠t then 0 else 70) else netErr n l
def levelsRes (n:Int) (l:List S74) (F:List Int) (s:Int):List Int × Int:=
 if askErr n l F=0 then(if 0≤s∧s<n then(dOf n.toNat (bfP l F n.toNat s.toNat),0) else([],1)) else([],askErr n l F)
end Go.Proofs.Ytkcpanpdipmmmaa.H
namespace Go.Proofs.Ytkcpanpdipmmmaa.H
open Go.RowKit Go.Proofs.YtkcpanpdipmmmaaW.PrintWords Go.Proofs.YtkcpanpdipmmmaaW.PrintLast Go.Proofs.YtkcpanpdipmmmaaW.PrintMore Go.Proofs.Ytkcpanpdipmmmaa.P Go.Proofs.Ytkcpanpdipmmmaa.Q
def esL (l:List S74) (L:List S38) (u:Nat):List S38:=L.filter fun e=>decide (stFrom l e=(u:Int))
def bfL (l:List S74) (L:List S38) (n s:Nat):List (Fd S38):=bfsN (toP l) (esL l L) z38 n s
theorem es_same (l:List S74) (F:List Int) (u:Nat) (k:Nat):(stL l u k).filter (fun e=>decide (0<stRoom l F e))=(stepsR l F k).filter (fun e=>decide (stFrom l e=(u:Int))):=by
 induction k with
 |zero=>rfl
 |succ k ih=>
  unfold stL stepsR
  rw[List.filter_append,List.filter_append,List.filter_append,List.filter_append,ih]
  congr 1
  ·congr 1
   have e1:stRoom l F ⟨(k:Int),false⟩=(rd_T74 l k).f2 - F.getD k 0:=by unfold stRoom;simp
   have e2:stFrom l ⟨(k:Int),false⟩=eFrom (rd_T74 l k):=rfl
   by_cases h1:eFrom (rd_T74 l k)=(u:Int)<;>by_cases h2:F.getD k 0<(rd_T74 l k).f2
   ·rw[if_pos h1,if_pos h2,List.filter_cons,List.filter_cons,if_pos (by rw[decide_eq_true_eq,e1];omega),if_pos (by rw[decide_eq_true_eq,e2];exact h1)];rfl
   ·rw[if_pos h1,if_neg h2,List.filter_cons,if_neg (by rw[decide_eq_true_eq,e1];omega)];rfl
   ·rw[if_neg h1,if_pos h2,List.filter_cons,if_neg (by rw[decide_eq_true_eq,e2];exact h1)];rfl
   ·rw[if_neg h1,if_neg h2];rfl
  ·have e1:stRoom l F ⟨(k:Int),true⟩=F.getD k 0:=by unfold stRoom;simp
   have e2:stFrom l ⟨(k:Int),true⟩=eTo (rd_T74 l k):=rfl
   by_cases h1:eTo (rd_T74 l k)=(u:Int)<;>by_cases h2:0<F.getD k 0
   ·rw[if_pos h1,if_pos h2,List.filter_cons,List.filter_cons,if_pos (by rw[decide_eq_true_eq,e1];omega),if_pos (by rw[decide_eq_true_eq,e2];exact h1)];rfl
   ·rw[if_pos h1,if_neg h2,List.filter_cons,if_neg (by rw[decide_eq_true_eq,e1];omega)];rfl
   ·rw[if_neg h1,if_pos h2,List.filter_cons,if_neg (by rw[decide_eq_true_eq,e2];exact h1)];rfl
   ·rw[if_neg h1,if_neg h2];rfl
theorem bf_same {l:List S74} {F:List Int} {n:Nat} (hr:Right l F n) (s:Nat):bfL l (stepsR l F F.length) n s=bfP l F n s:=by
 unfold bfL bfP
 have:esL l (stepsR l F F.length)=esP l F:=by
  funext u
  unfold esL esP
  rw[hr.len]
  exact(es_same l F u l.length).symm
 rw[this]
def hasI (X:List Int) (a:Int) (i:Nat):Int:=if a∈X.drop i then((i+(X.drop i).idxOf a:Nat):Int) else -1
theorem has_l0 (X:List Int) (Y:List S38) (a:Int) (hl:X.length≤1000000) (d:Nat): ∀ i:Nat,i+d=X.length→Ev (fun k=>ebbtideref08_found_has.l0 k a (i:Int) X Y) (hasI X a i):=by
 induction d with
 |zero=>
  intro i hi
  refine Ev.succ ?_;simp only[ebbtideref08_found_has.l0]
  refine Ev.neg (by omega) ?_
  exact Ev.done (by unfold hasI;rw[List.drop_of_length_le (by omega),if_neg (by simp)])
 |succ d ih=>
  intro i hi
  refine Ev.succ ?_;simp only[ebbtideref08_found_has.l0]
  refine Ev.pos (by omega) ?_
  refine Ev.pos (by omega) ?_
  have hd:=drop_getD X i 0 (by omega)
  rw[rd_nat]
  refine Ev.ite (fun g=> ?_) (fun g=> ?_)
  ·exact Ev.done (by unfold hasI;rw[hd,g,if_pos List.mem_cons_self,List.idxOf_cons_self];rfl)
  ·rw[wrap_succ (n:=X.length) (by omega) (by omega)]
   refine Ev.eq (ih (i+1) (by omega)) ?_
   unfold hasI
   rw[hd]
   by_cases hm:a∈X.drop (i+1)
   ·have e3:(X.getD i 0::X.drop (i+1)).idxOf a=(X.drop (i+1)).idxOf a+1:=by
     rw[List.idxOf_cons]
     have:(X.getD i 0 == a)=false:=beq_eq_false_iff_ne.2 g
     rw[this]
     rfl
    rw[if_pos hm,if_pos (List.mem_cons_of_mem _ hm),e3]
    omega
   ·rw[if_neg hm,if_neg (by intro h;rcases List.mem_cons.1 h with h|h;exact g h.symm;exact hm h)]
theorem has_ev (X:List Int) (Y:List S38) (a:Int) (hl:X.length≤1000000):Ev (fun k=>ebbtideref08_found_has.f k X Y a) (hasI X a 0):=by
 unfold ebbtideref08_found_has.f
 exact has_l0 X Y a hl X.length 0 (by omega)
def nX (st:List (Fd S38)):List Int:=(nodes st).map fun v:Nat=>(v:Int)
def bY (st:List (Fd S38)):List S38:=st.map Fd.by_
theorem nX_len (st:List (Fd S38)):(nX st).length=st.length:=by simp[nX,nodes]
theorem bY_len (st:List (Fd S38)):(bY st).length=st.length:=by simp[bY]
theorem nX_snoc (st:List (Fd S38)) (x:Fd S38):nX (st ++ [x])=nX st ++ [(x.v:Int)]:=by simp[nX,nodes]
theorem bY_snoc (st:List (Fd S38)) (x:Fd S38):bY (st ++ [x])=bY st ++ [x.by_]:=by simp[bY]
theorem mem_nX {st:List (Fd S38)} {v:Nat} :(v:Int)∈nX st↔v∈nodes st:=by
 unfold nX
 rw[List.mem_map]
 constructor
 ·rintro⟨u,hu,e⟩
  have:u=v:=by omega
  rw[← this];exact hu
 ·intro h;exact⟨v,h,rfl⟩
theorem hasI_neg {st:List (Fd S38)} {v:Nat} :hasI (nX st) (v:Int) 0<0↔v ∉ nodes st:=by
 unfold hasI
 rw[List.drop_zero]
 by_cases h:v∈nodes st
 ·rw[if_pos (mem_nX.2 h)]
  constructor
  ·intro h2;omega
  ·intro h2;exact absurd h h2
 ·rw[if_neg (fun h2=>h (mem_nX.1 h2))]
  simp[h]
theorem nX_get {st:List (Fd S38)} {i:Nat} {x:Fd S38} (h:st[i]? =some x):rd (nX st) (i:Int)=(x.v:Int):=by
 rw[rd_nat,List.getD_eq_getElem?_getD]
 unfold nX nodes
 rw[List.getElem?_map,List.getElem?_map,h]
 rfl
structure StepsOk (l:List S74) (n:Nat) (L:List S38):Prop where
 ends:ends l n
 arcs:l.length≤200
 of: ∀ s,s∈L→StepOf l s
 len:L.length≤400
section
variable {l:List S74} {n:Nat} {L:List S38}
theorem StepsOk.to_in (h:StepsOk l n L) {s:S38} (hs:s∈L):0≤stTo l s∧stTo l s<n:=by
 obtain⟨i,h1,h2⟩:=h.of s hs
 have:=h.ends i h1
 unfold stTo
 rw[h2]
 split
 ·exact this.1
 ·exact this.2
theorem esL_to (h:StepsOk l n L): ∀ (u:Nat) (e:S38),e∈esL l L u→toP l e<n:=by
 intro u e he
 have:=h.to_in (List.mem_filter.1 he).1
 unfold toP;omega
theorem esL_fr: ∀ (u:Nat) (e:S38),e∈esL l L u→frP l e=u:=by
 intro u e he
 have h:=of_decide_eq_true (List.mem_filter.1 he).2
 unfold frP
 rw[h,Int.toNat_natCast]
theorem rfrom_ok (h:StepsOk l n L) {s:S38} (hs:s∈L) (a:Int) (b:Bool):ebbtideref07_From.f a b l s.f0 s.f1=some (stFrom l s):=by
 obtain⟨i,h1,h2⟩:=h.of s hs
 unfold ebbtideref07_From.f stFrom eFrom eTo
 rw[h2]
 cases s.f1<;>simp[h1]
theorem rto_ok (h:StepsOk l n L) {s:S38} (hs:s∈L) (a:Int) (b:Bool):ebbtideref07_To.f a b l s.f0 s.f1=some (stTo l s):=by
 obtain⟨i,h1,h2⟩:=h.of s hs
 unfold ebbtideref07_To.f stTo eFrom eTo
 rw[h2]
 cases s.f1<;>simp[h1]
theorem sought_l1 (h:StepsOk l n L) (hn:n≤50) (a:Int) (b:Bool) {s i:Nat} (hs:s<n) {x:Fd S38} {R:List Int × List S38} (d:Nat): ∀ (j:Nat) (stj:List (Fd S38)),j+d=L.length→Fds (frP l) (toP l) (esL l L) s stj→stj[i]? =some x→(∀ y,y∈stj→y.lv≤x.lv+1)→
  Ev (fun k=>ebbtideref08_sought.l0 k L ((i+1:Nat):Int) a b l (nX (((L.drop j).filter fun e=>decide (stFrom l e=(x.v:Int))).foldl (vis (toP l) x.lv) stj)) (bY (((L.drop j).filter fun e=>decide (stFrom l e=(x.v:Int))).foldl (vis (toP l) x.lv) stj))) R→
  Ev (fun k=>ebbtideref08_sought.l1 k L (i:Int) (j:Int) a b l (nX stj) (bY stj)) R:=by
 induction d with
 |zero=>
  intro j stj hj hf hx hm he
  have hil:=(List.getElem?_eq_some_iff.1 hx).1
  have hln:=fds_len hf (esL_to h) hs
  rw[List.drop_of_length_le (by omega)] at he
  refine Ev.succ ?_;simp only[ebbtideref08_sought.l1]
  refine Ev.neg (by omega) ?_
  rw[wrap_succ (n:=51) (by omega) (by omega)]
  exact he
 |succ d ih=>
  intro j stj hj hf hx hm he
  have hil:=(List.getElem?_eq_some_iff.1 hx).1
  have hln:=fds_len hf (esL_to h) hs
  have hll:=h.len
  refine Ev.succ ?_;simp only[ebbtideref08_sought.l1]
  refine Ev.pos (by omega) ?_
  refine Ev.pos (by omega) ?_
  have hd:=drop_getD L j z38 (by omega)
  obtain⟨e,hee⟩: ∃ e,e=L.getD j z38:=⟨_,rfl⟩
  have hr:rd_T38 L (j:Int)=e:=by unfold rd_T38;rw[Int.toNat_natCast,hee]
  have hem:e∈L:=by rw[hee];exact getD_mem (by omega)
  rw[hr]
  rw[hd, ← hee,List.filter_cons] at he
  refine Ev.call (rfrom_ok h hem a b) ?_
  refine Ev.pos (by omega) ?_
  refine Ev.pos (by rw[nX_len];omega) ?_
  rw[nX_get hx,wrap_succ (n:=L.length) (by omega) (by omega)]
  refine Ev.ite (fun g=> ?_) (fun g=> ?_)
  ·rw[if_pos (by simpa using g),List.foldl_cons] at he
   have hto:=h.to_in hem
   have htp:stTo l e=((toP l e:Nat):Int):=by unfold toP;omega
   refine Ev.call (rto_ok h hem a b) ?_
   rw[htp]
   refine Ev.bind (has_ev (nX stj) (bY stj) _ (by rw[nX_len];omega)) ?_
   refine Ev.ite (fun g2=> ?_) (fun g2=> ?_)
   ·have hnm:=hasI_neg.1 g2
    have hv:vis (toP l) x.lv stj e=stj ++ [⟨toP l e,e,x.lv+1⟩]:=by unfold vis;rw[if_neg hnm]
    obtain⟨f1,f2⟩:=hf.vis hx hm (List.mem_filter.2 ⟨hem,by simpa using g⟩)
    rw[hv] at f1 f2 he
    refine Ev.call (rto_ok h hem a b) ?_
    rw[htp]
    refine Ev.pos (by rw[nX_len];omega) ?_
    refine Ev.pos (by rw[bY_len];omega) ?_
    have h2:=ih (j+1) (stj ++ [⟨toP l e,e,x.lv+1⟩]) (by omega) f1 (by rw[List.getElem?_append_left hil];exact hx) f2 he
    rw[nX_snoc,bY_snoc] at h2
    exact h2
   ·have hmm:toP l e∈nodes stj:=Classical.byContradiction fun hc=>g2 (hasI_neg.2 hc)
    have hv:vis (toP l) x.lv stj e=stj:=by unfold vis;rw[if_pos hmm]
    rw[hv] at he
    exact ih (j+1) stj (by omega) hf hx hm he
  ·rw[if_neg (by simpa using g)] at he
   exact ih (j+1) stj (by omega) hf hx hm he
theorem sought_l0 (h:StepsOk l n L) (hn:n≤50) (a:Int) (b:Bool) {s:Nat} (hs:s<n) (d:Nat): ∀ (i:Nat) (st:List (Fd S38)),Upto (frP l) (toP l) (esL l L) s i st→i+d=n→i≤st.length→
  Ev (fun k=>ebbtideref08_sought.l0 k L (i:Int) a b l (nX st) (bY st)) (nX (bfs (toP l) (esL l L) d i st),bY (bfs (toP l) (esL l L) d i st)):=by
 induction d with
 |zero=>
  intro i st hu hi hil
  have hln:=fds_len hu.fds (esL_to h) hs
  refine Ev.succ ?_;simp only[ebbtideref08_sought.l0]
  refine Ev.neg (by rw[nX_len];omega) ?_
  exact Ev.now _
 |succ d ih=>
  intro i st hu hi hil
  unfold bfs
  cases hx:st[i]? with
  |none=>
   have:=List.getElem?_eq_none_iff.1 hx
   refine Ev.succ ?_;simp only[ebbtideref08_sought.l0]
   refine Ev.neg (by rw[nX_len];omega) ?_
   exact Ev.now _
  |some x=>
   have hlt:=(List.getElem?_eq_some_iff.1 hx).1
   refine Ev.succ ?_;simp only[ebbtideref08_sought.l0]
   refine Ev.pos (by rw[nX_len];omega) ?_
   refine sought_l1 h hn a b hs L.length 0 st (by omega) hu.fds hx (hu.most x hx) ?_
   rw[List.drop_zero]
   have hnx:=hu.next hx
   have hpl:i+1≤(proc (toP l) (esL l L) st x).length:=by
    obtain⟨r,hr⟩:=fold_pre (toP l) x.lv (esL l L x.v) st
    unfold proc
    rw[hr,List.length_append]
    omega
   exact ih (i+1) (proc (toP l) (esL l L) st x) hnx (by omega) hpl
theorem sought_ev (h:StepsOk l n L) (hn:n≤50) (b:Bool) {s:Nat} (hs:s<n):Ev (fun k=>ebbtideref08_sought.f k (n:Int) b l (s:Int) L) (nX (bfL l L n s),bY (bfL l L n s)):=by
 unfold ebbtideref08_sought.f
 refine Ev.pos (by simp) ?_
 refine Ev.pos (by simp) ?_
 exact sought_l0 h hn (n:Int) b hs n 0 [⟨s,z38,0⟩] (upto_start _ _ _ _ _) (by omega) (Nat.zero_le _)
end
end Go.Proofs.Ytkcpanpdipmmmaa.H
namespace Go.Proofs.Ytkcpanpdipmmmaa.H
open Go.RowKit Go.Proofs.YtkcpanpdipmmmaaW.PrintWords Go.Proofs.YtkcpanpdipmmmaaW.PrintLast Go.Proofs.YtkcpanpdipmmmaaW.PrintMore Go.Proofs.Ytkcpanpdipmmmaa.P Go.Proofs.Ytkcpanpdipmmmaa.Q
structure Seen (l:List S74) (F:List Int) (n s:Nat) (t:Int) (st:List (Fd S38)):Prop where
 pre: ∃ r,bfP l F n s=st ++ r
 fds:Fds (frP l) (toP l) (esP l F) s st
 hit:st=bfP l F n s∨ ∃ tn:Nat,t=tn∧tn∈nodes st
structure Lp (l:List S74) (F:List Int) (n s:Nat) (t:Int) (st:List (Fd S38)) (i:Nat):Prop where
 upto:Upto (frP l) (toP l) (esP l F) s i st
 rest:bfs (toP l) (esP l F) (n - i) i st=bfP l F n s
 ile:i≤st.length
 nott: ∀ tn:Nat,t=tn→tn ∉ nodes st
structure Li (l:List S74) (F:List Int) (n s:Nat) (t:Int) (x:Fd S38) (X stj:List (Fd S38)) (i j:Nat):Prop where
 fds:Fds (frP l) (toP l) (esP l F) s stj
 mst: ∀ y,y∈stj→y.lv≤x.lv+1
 at_:stj[i]? =some x
 tail:(((stL l x.v l.length).drop j).filter fun e=>decide (0<stRoom l F e)).foldl (vis (toP l) x.lv) stj=X
 nott: ∀ tn:Nat,t=tn→tn ∉ nodes stj
section
variable {l:List S74} {F:List Int} {n s:Nat} {t:Int}
theorem lp_start (hs:s<n) (ht:t≠s):Lp l F n s t [⟨s,z38,0⟩] 0:=
 ⟨upto_start _ _ _ _ _,rfl,Nat.zero_le _,fun tn e hm=>by simp[nodes] at hm;omega⟩
theorem Lp.seen {st:List (Fd S38)} {i:Nat} (h:Lp l F n s t st i) (hi:i=st.length):Seen l F n s t st:=by
 have e:st=bfP l F n s:=by
  rw[← h.rest]
  cases n - i with
  |zero=>rfl
  |succ k=>unfold bfs;rw[List.getElem?_eq_none (by omega)]
 exact⟨⟨[],by rw[List.append_nil, ← e]⟩,h.upto.fds, .inl e⟩
theorem Lp.len (hr:Right l F n) (hs:s<n) {st:List (Fd S38)} {i:Nat} (h:Lp l F n s t st i):st.length≤n:=fds_len h.upto.fds (esP_to hr) hs
theorem Lp.inner {st:List (Fd S38)} {i:Nat} (h:Lp l F n s t st i) {x:Fd S38} (hx:st[i]? =some x):Li l F n s t x (proc (toP l) (esP l F) st x) st i 0:=
 ⟨h.upto.fds,h.upto.most x hx,hx,by rw[List.drop_zero];rfl,h.nott⟩
theorem Li.next (hr:Right l F n) (hs:s<n) {st:List (Fd S38)} {i:Nat} (h:Lp l F n s t st i) {x:Fd S38} (hx:st[i]? =some x) {stj:List (Fd S38)} (hj:Li l F n s t x (proc (toP l) (esP l F) st x) stj i (stL l x.v l.length).length):Lp l F n s t stj (i+1):=by
 have e:stj=proc (toP l) (esP l F) st x:=by
  have:=hj.tail
  rw[List.drop_of_length_le (Nat.le_refl _)] at this
  exact this
 have hil:=(List.getElem?_eq_some_iff.1 hx).1
 have hl:=h.len hr hs
 refine⟨by rw[e];exact h.upto.next hx,?_,?_,hj.nott⟩
 ·have hrest:=h.rest
  rw[show n - i=(n - (i+1))+1 by omega] at hrest
  rw[e, ← hrest]
  rw[bfs,hx]
 ·have:=(List.getElem?_eq_some_iff.1 hj.at_).1
  omega
theorem row_drop {x:Fd S38} {j:Nat} {e:S38} (he:(stL l x.v l.length)[j]? =some e):(stL l x.v l.length).drop j=e::(stL l x.v l.length).drop (j+1):=by
 obtain⟨hlt,h⟩:=List.getElem?_eq_some_iff.1 he
 rw[List.drop_eq_getElem_cons hlt,h]
theorem Li.skip {x:Fd S38} {X stj:List (Fd S38)} {i j:Nat} (h:Li l F n s t x X stj i j) {e:S38} (he:(stL l x.v l.length)[j]? =some e) (h0: ¬ 0<stRoom l F e∨toP l e∈nodes stj):Li l F n s t x X stj i (j+1):=by
 refine⟨h.fds,h.mst,h.at_,?_,h.nott⟩
 have ht:=h.tail
 rw[row_drop he,List.filter_cons] at ht
 by_cases hr:0<stRoom l F e
 ·rw[if_pos (by simpa using hr),List.foldl_cons] at ht
  have hv:vis (toP l) x.lv stj e=stj:=by unfold vis;rw[if_pos (h0.resolve_left (fun h=>h hr))]
  rw[hv] at ht
  exact ht
 ·rw[if_neg (by simpa using hr)] at ht
  exact ht
theorem Li.add {x:Fd S38} {X stj:List (Fd S38)} {i j:Nat} (h:Li l F n s t x X stj i j) {e:S38} (he:(stL l x.v l.length)[j]? =some e) (hr:0<stRoom l F e) (hn:toP l e ∉ nodes stj):
  Fds (frP l) (toP l) (esP l F) s (stj ++ [⟨toP l e,e,x.lv+1⟩])∧(∀ y,y∈stj ++ [⟨toP l e,e,x.lv+1⟩]→y.lv≤x.lv+1)∧(((stL l x.v l.length).drop (j+1)).filter fun e=>decide (0<stRoom l F e)).foldl (vis (toP l) x.lv) (stj ++ [⟨toP l e,e,x.lv+1⟩])=X∧(stj ++ [⟨toP l e,e,x.lv+1⟩])[i]? =some x:=by
 have hv:vis (toP l) x.lv stj e=stj ++ [⟨toP l e,e,x.lv+1⟩]:=by unfold vis;rw[if_neg hn]
 obtain⟨h1,h2⟩:=h.fds.vis h.at_ h.mst (mem_esP.2 ⟨List.mem_of_getElem? he,hr⟩)
 rw[hv] at h1 h2
 have ht:=h.tail
 rw[row_drop he,List.filter_cons,if_pos (by simpa using hr),List.foldl_cons,hv] at ht
 exact⟨h1,h2,ht,by rw[List.getElem?_append_left (List.getElem?_eq_some_iff.1 h.at_).1];exact h.at_⟩
theorem Li.put {x:Fd S38} {X stj:List (Fd S38)} {i j:Nat} (h:Li l F n s t x X stj i j) {e:S38} (he:(stL l x.v l.length)[j]? =some e) (hr:0<stRoom l F e) (hn:toP l e ∉ nodes stj) (ht:t≠toP l e):Li l F n s t x X (stj ++ [⟨toP l e,e,x.lv+1⟩]) i (j+1):=by
 obtain⟨h1,h2,h3,h4⟩:=h.add he hr hn
 refine⟨h1,h2,h4,h3,fun tn etn hm=> ?_⟩
 rw[nodes_app] at hm
 rcases List.mem_append.1 hm with hm|hm
 ·exact h.nott tn etn hm
 ·simp[nodes] at hm
  exact ht (by rw[etn,hm])
theorem Li.found {st:List (Fd S38)} {i:Nat} (hp:Lp l F n s t st i) {x:Fd S38} (hx:st[i]? =some x) (hi:i<n) {stj:List (Fd S38)} {j:Nat} (h:Li l F n s t x (proc (toP l) (esP l F) st x) stj i j) {e:S38} (he:(stL l x.v l.length)[j]? =some e) (hr:0<stRoom l F e) (hn:toP l e ∉ nodes stj) (ht:t=toP l e):
  Seen l F n s t (stj ++ [⟨toP l e,e,x.lv+1⟩]):=by
 obtain⟨h1,h2,h3,h4⟩:=h.add he hr hn
 refine⟨?_,h1, .inr ⟨toP l e,ht,by rw[nodes_app];exact List.mem_append_right _ (by simp[nodes])⟩⟩
 obtain⟨r,hr1⟩:=fold_pre (toP l) x.lv (((stL l x.v l.length).drop (j+1)).filter fun e=>decide (0<stRoom l F e)) (stj ++ [⟨toP l e,e,x.lv+1⟩])
 obtain⟨q,hq⟩:=bfs_pre (toP l) (esP l F) (n - (i+1)) (i+1) (proc (toP l) (esP l F) st x)
 have hrest:=hp.rest
 rw[show n - i=(n - (i+1))+1 by omega,bfs,hx] at hrest
 refine⟨r ++ q,?_⟩
 rw[← hrest]
 show bfs (toP l) (esP l F) (n - (i+1)) (i+1) (proc (toP l) (esP l F) st x)=_
 rw[hq, ← h3,hr1,List.append_assoc]
def qOf (st:List (Fd S38)) (i:Nat):List Int:=((nodes st).drop i).map fun v:Nat=>(v:Int)
theorem qOf_cons {st:List (Fd S38)} {i:Nat} {x:Fd S38} (hx:st[i]? =some x):qOf st i=(x.v:Int)::qOf st (i+1):=by
 obtain⟨hlt,h⟩:=List.getElem?_eq_some_iff.1 hx
 unfold qOf nodes
 rw[List.drop_eq_getElem_cons (by simpa using hlt),List.map_cons,List.getElem_map,h]
theorem qOf_snoc {st:List (Fd S38)} {i:Nat} (hi:i≤st.length) (y:Fd S38):qOf (st ++ [y]) i=qOf st i ++ [(y.v:Int)]:=by
 unfold qOf
 rw[nodes_app,List.drop_append_of_le_length (by unfold nodes;simpa using hi),List.map_append]
 rfl
end
end Go.Proofs.Ytkcpanpdipmmmaa.H
namespace Go.Proofs.Ytkcpanpdipmmmaa.H
open Go.RowKit Go.Proofs.YtkcpanpdipmmmaaW.PrintWords Go.Proofs.YtkcpanpdipmmmaaW.PrintLast Go.Proofs.YtkcpanpdipmmmaaW.PrintMore Go.Proofs.Ytkcpanpdipmmmaa.P
structure Ks (S:Nat→Prop) (w w':World):Prop where
 os:w'.os=w.os
 tape:w'.tape=w.tape
 output:w'.output=w.output
 size:w.heap.size≤w'.heap.size
 block: ∀ k,k<w.heap.size→ ¬ S k→w'.heap[k]? =w.heap[k]?
section
variable {S T:Nat→Prop} {w w1 w2:World}
theorem Ks.refl (S:Nat→Prop) (w:World):Ks S w w:=⟨rfl,rfl,rfl,Nat.le_refl _,fun _ _ _=>rfl⟩
theorem Ks.trans (h:Ks S w w1) (k:Ks T w1 w2) (hT: ∀ b,T b→b<w.heap.size→S b):Ks S w w2:=
 ⟨k.os.trans h.os,k.tape.trans h.tape,k.output.trans h.output,Nat.le_trans h.size k.size,fun b hb hs=>(k.block b (Nat.lt_of_lt_of_le hb h.size) (fun ht=>hs (hT b ht hb))).trans (h.block b hb hs)⟩
theorem Ks.of_below (h:Below w.heap.size w w1) (S:Nat→Prop):Ks S w w1:=⟨h.os,h.tape,h.output,h.size,fun b hb _=>h.block b hb⟩
theorem Ks.below (h:Ks S w w1) (hb:Below w1.heap.size w1 w2):Ks S w w2:=h.trans (Ks.of_below hb (fun _=>False)) (fun _ h=>h.elim)
theorem Ks.trans' {w0:World} (h:Ks S w w1) (hb:Below w0.heap.size w0 w):Ks S w0 w1:=(Ks.of_below hb S).trans h (fun _ h _=>h)
theorem Ks.set (h:Ks S w w1) {g:Nat} (hg:g<w.heap.size→S g) (j:Nat) (u:Value):Ks S w (w1.setCell ⟨g,j,none⟩ u):=
 ⟨h.os,h.tape,h.output,by simpa [World.setCell] using h.size,fun k hk hs=>(Below.heap_setCell w1 ⟨g,j,none⟩ u k (by rintro rfl;exact hs (hg hk))).trans (h.block k hk hs)⟩
theorem Ks.mono (h:Ks S w w1) (hT: ∀ b,S b→b<w.heap.size→T b):Ks T w w1:=⟨h.os,h.tape,h.output,h.size,fun b hb ht=>h.block b hb (fun hs=>ht (hT b hs hb))⟩
theorem Ks.toBelow {B:Nat} {w0:World} (h:Ks S w w1) (hb:Below B w0 w) (hB:B≤w.heap.size) (hS: ∀ b,S b→B≤b):Below B w0 w1:=
 hb.trans ⟨h.os,h.tape,h.output,h.size,fun k hk=>h.block k (by omega) (fun hs=>by have:=hS k hs;omega)⟩
theorem Ks.blk (h:Ks S w w1) {g:Nat} {o:Obj} (hb:w.heap[g]? =some o) (hs: ¬ S g):w1.heap[g]? =some o:=(h.block g (blk_lt hb) hs).trans hb
theorem Ks.R {α:Type} {d:Kd α} {e base:Nat} {ok:Nat→Prop} {v:Value} {xs:List α} (h:Ks S w w1) (hr:d.R e w base ok v xs) (hok: ∀ k,ok k→k<w.heap.size→ ¬ S k):d.R e w1 base ok v xs:=Kd.R_step hr (fun k ho hlt=>h.block k hlt (hok k ho hlt))
end
structure Qu (w:World) (g:Nat) (A:Option Addr) (R:List Int) (fr sz mo:Nat):Prop where
 hd:w.heap[g]? =some (.cells #[.slice A R.length R.length, .int .i64 (fr:Nat), .int .i64 (sz:Nat), .int .i64 (mo:Nat)] 193 (0,0))
 ring:(A=none∧R=[])∨ ∃ b,A=some ⟨b,0,none⟩∧0<R.length∧w.heap[b]? =some (.cells (nums .i64 R).toArray 3 (0,0))
 szr:sz≤R.length
 frr:fr<R.length∨fr=0∧R=[]
 szm:sz≤mo
 mo50:mo≤50
 len:R.length≤200
def quS (g:Nat) (A:Option Addr) (k:Nat):Prop:=k=g∨ ∃ a,A=some a∧k=a.block
def qL (R:List Int) (fr sz:Nat):List Int:=(List.range sz).map fun i=>R.getD ((fr+i) % R.length) 0
theorem Qu.step {w w1:World} {g:Nat} {A:Option Addr} {R:List Int} {fr sz mo:Nat} (h:Qu w g A R fr sz mo) (hb: ∀ k,k<w.heap.size→quS g A k→w1.heap[k]? =w.heap[k]?):Qu w1 g A R fr sz mo:=by
 refine⟨(hb g (blk_lt h.hd) (.inl rfl)).trans h.hd,?_,h.szr,h.frr,h.szm,h.mo50,h.len⟩
 rcases h.ring with h1|⟨b,h1,h2,h3⟩
 ·exact .inl h1
 ·exact .inr ⟨b,h1,h2,(hb b (blk_lt h3) (.inr ⟨_,h1,rfl⟩)).trans h3⟩
theorem Qu.below {w w1:World} {g:Nat} {A:Option Addr} {R:List Int} {fr sz mo:Nat} (h:Qu w g A R fr sz mo) (hb:Below w.heap.size w w1):Qu w1 g A R fr sz mo:=h.step fun k hk _=>hb.block k hk
theorem Qu.ne {w:World} {g b:Nat} {R:List Int} {fr sz mo:Nat} (h:Qu w g (some ⟨b,0,none⟩) R fr sz mo):g≠b:=by
 rcases h.ring with ⟨h1,_⟩|⟨c,h1,h2,h3⟩
 ·cases h1
 ·cases h1
  exact blk_ne h.hd h3 (by decide)
theorem nums_get (R:List Int) (j:Nat) (h:j<R.length):(nums .i64 R).toArray[j]? =some (.int .i64 (R.getD j 0)):=by
 simp[nums,List.getD_eq_getElem?_getD,List.getElem?_eq_getElem h]
theorem mod_add_one (a b m:Nat):((a+1) % m+b) % m=(a+(b+1)) % m:=by
 rw[Nat.mod_add_mod];congr 1;omega
theorem qL_take (R:List Int) (fr sz:Nat) (hf:fr<R.length):qL R fr (sz+1)=R.getD fr 0::qL R ((fr+1) % R.length) sz:=by
 unfold qL
 rw[List.range_succ_eq_map,List.map_cons,Nat.add_zero,Nat.mod_eq_of_lt hf,List.map_map]
 congr 1
 apply List.map_congr_left
 intro i _
 show R.getD ((fr+(i+1)) % R.length) 0=R.getD (((fr+1) % R.length+i) % R.length) 0
 rw[mod_add_one]
attribute [local irreducible] wpQuiet
set_option maxHeartbeats 1000000 in
set_option maxRecDepth 100000 in
theorem que_len (g:Nat) (A:Option Addr) (R:List Int) (fr sz mo:Nat) (w:World) (h:Qu w g A R fr sz mo):
  Calls Try.prog 166 #[.pointer (some ⟨g,0,none⟩)] w fun e w'=>e= .returned (.int .i64 sz)∧w'=w:=by
 have c2:w.cell? ⟨g,2,none⟩=some (.int .i64 sz):=(blk_cell h.hd 2).trans rfl
 clear h
 go_enter Try.func166,Try.ntmps166
 go_wp2
 go_ret
 exact⟨rfl,rfl⟩
set_option maxHeartbeats 1000000 in
set_option maxRecDepth 100000 in
theorem take_core (g b m fr sz:Nat) (x:Int) (w:World) (c0:w.cell? ⟨g,0,none⟩=some (.slice (some ⟨b,0,none⟩) m m)) (c1:w.cell? ⟨g,1,none⟩=some (.int .i64 fr)) (c2:w.cell? ⟨g,2,none⟩=some (.int .i64 (sz+1:Nat)))
  (c3:w.cell? ⟨b,fr,none⟩=some (.int .i64 x)) (f1:w.frozen? ⟨g,1,none⟩=false) (f2:w.frozen? ⟨g,2,none⟩=false) (hne:g≠b) (p0:(0:Int)≤(fr:Int)) (p1:(fr:Int)<(m:Int)) (p2:(m:Int)≤200) (p4:(sz:Int)+1≤50) (p5:(0:Int)≤(sz:Int)):
  Calls Try.prog 167 #[.pointer (some ⟨g,0,none⟩)] w fun e w'=>e= .returned (.tuple #[.int .i64 x, .int .i64 0])∧w'=((w.setCell ⟨g,1,none⟩ (.int .i64 (((fr:Int)+1) % (m:Int)))).setCell ⟨g,2,none⟩ (.int .i64 sz)).drew.drew:=by
 have hu:=Try.underlying193
 have p3:(0:Int)<(m:Int):=by omega
 have e1:((sz:Int)+1 == 0)=false:=beq_eq_false_iff_ne.2 (by omega)
 go_enter Try.func167,Try.ntmps167
 go_wp2_with fail
 go_region
 go_wp2_with fail
 go_region
 go_wp2_with fail
 go_ret2
 exact⟨rfl,rfl⟩
theorem que_take (g b:Nat) (R:List Int) (fr sz mo:Nat) (w:World) (h:Qu w g (some ⟨b,0,none⟩) R fr (sz+1) mo):
  Calls Try.prog 167 #[.pointer (some ⟨g,0,none⟩)] w fun e w'=>e= .returned (.tuple #[.int .i64 (R.getD fr 0), .int .i64 0])∧Qu w' g (some ⟨b,0,none⟩) R ((fr+1) % R.length) sz mo∧Ks (fun k=>k=g) w w':=by
 have hfr:fr<R.length:=by
  rcases h.frr with h1|⟨_,h1⟩
  ·exact h1
  ·have:=h.szr;rw[h1] at this;simp at this
 have hl:=h.len
 have hring:w.heap[b]? =some (.cells (nums .i64 R).toArray 3 (0,0)):=by
  rcases h.ring with ⟨h1,_⟩|⟨c,h1,h2,h3⟩
  ·cases h1
  ·cases h1;exact h3
 have hm:=h.szm
 have h50:=h.mo50
 refine(take_core g b R.length fr sz (R.getD fr 0) w ((blk_cell h.hd 0).trans rfl) ((blk_cell h.hd 1).trans rfl) ((blk_cell h.hd 2).trans rfl) ((blk_cell hring fr).trans (nums_get R fr hfr)) (blk_frozen h.hd 1) (blk_frozen h.hd 2) h.ne (by omega) (by omega) (by omega) (by omega) (by omega)).mono ?_
 rintro e w' ⟨rfl,rfl⟩
 have he:((fr:Int)+1) % (R.length:Int)=(((fr+1) % R.length:Nat):Int):=by rw[Int.natCast_emod];rfl
 rw[he]
 refine⟨rfl,⟨blk_set (blk_set h.hd 1 _) 2 _, .inr ⟨b,rfl,by omega,?_⟩,by have:=h.szr;omega, .inl (Nat.mod_lt _ (by omega)),by omega,h50,hl⟩,?_⟩
 ·exact blk_far (blk_far hring (p:=⟨g,1,none⟩) (Ne.symm h.ne) _) (p:=⟨g,2,none⟩) (Ne.symm h.ne) _
 ·exact(((Ks.refl (fun k=>k=g) w).set (g:=g) (fun _=>rfl) 1 _).set (g:=g) (fun _=>rfl) 2 _).below (below_drew (below_drew (Below.refl _ _)))
end Go.Proofs.Ytkcpanpdipmmmaa.H
namespace Go.Proofs.Ytkcpanpdipmmmaa.H
open Go.RowKit Go.Proofs.YtkcpanpdipmmmaaW.PrintWords Go.Proofs.YtkcpanpdipmmmaaW.PrintLast Go.Proofs.YtkcpanpdipmmmaaW.PrintMore Go.Proofs.Ytkcpanpdipmmmaa.P
def IsI (w:World) (g:Nat) (D:List Int):Prop:=w.heap[g]? =some (.cells (nums .i64 D).toArray 3 (0,0))
def stC (B:List S38):List Value:=B.flatMap fun s=>[.int .i64 s.f0, .bool s.f1]
def IsS (w:World) (g:Nat) (B:List S38):Prop:=w.heap[g]? =some (.cells (stC B).toArray 38 (0,0))
theorem stC_len (B:List S38):(stC B).length=2 * B.length:=by
 induction B with
 |nil=>rfl
 |cons s B ih=>show ([_,_] ++ stC B).length=_;rw[List.length_append,ih,List.length_cons];simp;omega
theorem stC_cons (s:S38) (B:List S38):stC (s::B)= .int .i64 s.f0:: .bool s.f1::stC B:=rfl
theorem stC_get (z:S38): ∀ (B:List S38) (u:Nat),u<B.length→(stC B)[u * 2]? =some (.int .i64 (B.getD u z).f0)∧(stC B)[u * 2+1]? =some (.bool (B.getD u z).f1)
 |[],u,h=>by simp at h
 |s::B,0,_=>⟨rfl,rfl⟩
 |s::B,u+1,h=>by
  have:=stC_get z B u (by simpa using h)
  rw[stC_cons,show (u+1) * 2=(u * 2+1)+1 by omega,List.getElem?_cons_succ,List.getElem?_cons_succ,List.getElem?_cons_succ,List.getElem?_cons_succ,List.getD_cons_succ]
  exact this
theorem stC_set: ∀ (B:List S38) (u:Nat) (s:S38),((stC B).set (u * 2) (.int .i64 s.f0)).set (u * 2+1) (.bool s.f1)=stC (B.set u s)
 |[],u,s=>rfl
 |x::B,0,s=>rfl
 |x::B,u+1,s=>by
  rw[stC_cons,show (u+1) * 2=(u * 2+1)+1 by omega,List.set_cons_succ,List.set_cons_succ,List.set_cons_succ,List.set_cons_succ,stC_set B u s]
  rfl
section
variable {w w1:World} {g:Nat} {D:List Int} {B:List S38}
theorem IsI.lt (h:IsI w g D):g<w.heap.size:=blk_lt h
theorem IsS.lt (h:IsS w g B):g<w.heap.size:=blk_lt h
theorem IsI.same (h:IsI w g D) (e:w1.heap[g]? =w.heap[g]?):IsI w1 g D:=e.trans h
theorem IsS.same (h:IsS w g B) (e:w1.heap[g]? =w.heap[g]?):IsS w1 g B:=e.trans h
theorem IsI.below (h:IsI w g D) (hb:Below w.heap.size w w1):IsI w1 g D:=h.same (hb.block g h.lt)
theorem IsS.below (h:IsS w g B) (hb:Below w.heap.size w w1):IsS w1 g B:=h.same (hb.block g h.lt)
theorem IsI.kept {S:Nat→Prop} (h:IsI w g D) (hk:Ks S w w1) (hs: ¬ S g):IsI w1 g D:=hk.blk h hs
theorem IsS.kept {S:Nat→Prop} (h:IsS w g B) (hk:Ks S w w1) (hs: ¬ S g):IsS w1 g B:=hk.blk h hs
theorem IsI.far (h:IsI w g D) {p:Addr} (hp:g≠p.block) (u:Value):IsI (w.setCell p u) g D:=blk_far h hp u
theorem IsS.far (h:IsS w g B) {p:Addr} (hp:g≠p.block) (u:Value):IsS (w.setCell p u) g B:=blk_far h hp u
theorem IsI.cell (h:IsI w g D) {j:Nat} (hj:j<D.length):w.cell? ⟨g,j,none⟩=some (.int .i64 (D.getD j 0)):=(blk_cell h j).trans (nums_get D j hj)
theorem IsI.free (h:IsI w g D) (j:Nat):w.frozen? ⟨g,j,none⟩=false:=blk_frozen h j
theorem IsS.free (h:IsS w g B) (j:Nat):w.frozen? ⟨g,j,none⟩=false:=blk_frozen h j
theorem IsS.cell (h:IsS w g B) (z:S38) {j:Nat} (hj:j<B.length):w.cell? ⟨g,j * 2,none⟩=some (.int .i64 (B.getD j z).f0)∧w.cell? ⟨g,j * 2+1,none⟩=some (.bool (B.getD j z).f1):=by
 obtain⟨h1,h2⟩:=stC_get z B j hj
 exact⟨(blk_cell h _).trans (by simpa using h1),(blk_cell h _).trans (by simpa using h2)⟩
theorem IsI.put (h:IsI w g D) (j:Nat) (x:Int):IsI (w.setCell ⟨g,j,none⟩ (.int .i64 x)) g (D.set j x):=by
 refine(blk_set h j _).trans ?_
 simp[nums,List.map_set]
theorem IsS.put (h:IsS w g B) (j:Nat) (s:S38):IsS ((w.setCell ⟨g,j * 2,none⟩ (.int .i64 s.f0)).setCell ⟨g,j * 2+1,none⟩ (.bool s.f1)) g (B.set j s):=by
 refine(blk_set (blk_set h (j * 2) _) (j * 2+1) _).trans ?_
 rw[← stC_set]
 simp
theorem IsI.R (h:IsI w g D) (hl:D.length≤9223372036854775807) {base:Nat} (hb:base≤g) {ok:Nat→Prop} (hok:ok g):Kd.R (Kd.int .i64) 3 w base ok (.slice (some ⟨g,0,none⟩) D.length D.length) D:=by
 refine Kd.R_of_own (enc:=Value.int .i64) ?_ (fun k hk=> ?_)
 ·refine⟨by simp[encs], .inr ⟨g,D.length,_,rfl,hb,h,Nat.le_refl _,by simp only[maxLen];omega,by simp[nums],?_⟩⟩
  simp only[nums,encs,Nat.mul_one]
  exact List.take_of_length_le (by simp)
 ·have:g=k:=by simpa [Value.ownBlock] using hk
  subst this;exact hok
theorem IsS.R (h:IsS w g B) (hl:B.length≤9223372036854775807) {base:Nat} (hb:base≤g) {ok:Nat→Prop} (hok:ok g):Kd.R k38 38 w base ok (.slice (some ⟨g,0,none⟩) B.length B.length) B:=by
 refine⟨fun k hk=> ?_,stC B,⟨?_, .inr ⟨g,B.length,_,rfl,hb,h,Nat.le_refl _,by simp only[maxLen];omega,?_,?_⟩⟩,?_,fun j p hj=> ?_⟩
 ·have:g=k:=by simpa [Value.ownBlock] using hk
  subst this;exact hok
 ·rw[stC_len];show 2 * B.length=B.length * 2;omega
 ·show (stC B).toArray.size=B.length * 2
  rw[List.size_toArray,stC_len];omega
 ·show (stC B).toArray.toList.take (B.length * 2)=stC B
  rw[List.take_of_length_le (by simp[stC_len];omega)]
 ·rw[stC_len];show 2 * B.length=B.length * 2;omega
 ·obtain⟨hlt,hp⟩:=List.getElem?_eq_some_iff.1 hj
  obtain⟨h1,h2⟩:=stC_get p B j hlt
  have hg:B.getD j p=p:=by rw[List.getD_eq_getElem?_getD,hj];rfl
  rw[hg] at h1 h2
  have e:((stC B).drop (j * 2)).take 2=[.int .i64 p.f0, .bool p.f1]:=by
   apply List.ext_getElem?
   intro m
   rw[List.getElem?_take,List.getElem?_drop]
   match m with
   |0=>rw[if_pos (by omega),Nat.add_zero,h1];rfl
   |1=>rw[if_pos (by omega),h2];rfl
   |m+2=>rw[if_neg (by omega)];rfl
  show Kd.M k38 w base _ p (((stC B).drop (j * 2)).take 2)
  rw[e]
  exact k38_mkM _ _ _ p
end
end Go.Proofs.Ytkcpanpdipmmmaa.H
namespace Go.Proofs.Ytkcpanpdipmmmaa.P
open Go.RowKit Go.Proofs.YtkcpanpdipmmmaaW.PrintWords Go.Proofs.YtkcpanpdipmmmaaW.PrintLast Go.Proofs.YtkcpanpdipmmmaaW.PrintMore
attribute [local go_sem] max2_int min2_int max_two min_two max_three min_three max_four min_four
def pile_room.f (a0:Int):Option (Bool):=if a0≥0 then(some (decide (a0≤65536))) else(some false)
set_option maxHeartbeats 8000000 in
set_option maxRecDepth 100000 in
theorem pile_room.calls (a0:Int) (r:Bool) (w:World) (h:pile_room.f a0=some r):
  Calls Try.prog 172 #[.int .i64 a0] w fun e w'=>e= .returned (.bool r)∧Drawn0 w w':=by
 have H:(if a0≥0 then(some (decide (a0≤65536))) else(some false))=some r:=h
 clear h
 by_cases c2:a0≥0
 rotate_left
 ·rw[if_neg c2] at H
  have c2b0:decide (0≤a0)=false:=decide_eq_false c2
  clear c2
  obtain rfl:=Option.some.inj H
  go_enter Try.func172,Try.ntmps172
  go_wp2
  go_ret
  exact⟨by first|rfl|(simp;done)|(simp[*];done),by repeat(first|exact Drawn0.refl _|apply Drawn0.step)⟩
 rw[if_pos c2] at H
 have c2b0:decide (0≤a0)=true:=decide_eq_true c2
 clear c2
 obtain rfl:=Option.some.inj H
 go_enter Try.func172,Try.ntmps172
 go_wp2
 go_ret
 exact⟨by first|rfl|(simp;done)|(simp[*];done),by repeat(first|exact Drawn0.refl _|apply Drawn0.step)⟩
end Go.Proofs.Ytkcpanpdipmmmaa.P
namespace Go.Proofs.Ytkcpanpdipmmmaa.H
open Go.RowKit Go.Proofs.YtkcpanpdipmmmaaW.PrintWords Go.Proofs.YtkcpanpdipmmmaaW.PrintLast Go.Proofs.YtkcpanpdipmmmaaW.PrintMore Go.Proofs.Ytkcpanpdipmmmaa.P
attribute [local irreducible] wpQuiet
theorem info3:(Try.prog.info? 3).map (fun i=>(i.zero,i.size,i.bytes))=some (some (.int .i64 0),1,8):=by kernel_rfl
def ringAt (X:Nat→Int) (m i:Nat):List Int:=(List.range i).map X ++ List.replicate (2 * m+4 - i) 0
theorem made_ring (X:Nat→Int) (m:Nat) (hm:m≤200): ∀ W:World,(Instr.makeSlice 25 (.int .i64 0) (.int .i64 (2 * (m:Int)+4))).run Try.prog W= .ok (.slice (some ⟨W.heap.size,0,none⟩) 0 (2 * m+4)) (W.alloc (.cells (nums .i64 (ringAt X m 0)).toArray 3)):=by
 intro W
 have er:ringAt X m 0=List.replicate (2 * m+4) 0:=by simp[ringAt]
 rw[er]
 obtain⟨i0,hi,hzz⟩:=Option.map_eq_some_iff.1 info3
 simp only[Prod.mk.injEq] at hzz
 obtain⟨hz0,hz1,hz2⟩:=hzz
 have hr:=run_make (P:=Try.prog) W 25 3 i0 (.int .i64 0) Try.underlying25 hi hz0 .i64 .i64 (0:Int) (2 * (m:Int)+4) (by omega) (by omega) (by rw[hz2];omega) (by omega)
 rw[hz1] at hr
 have e1:(2 * (m:Int)+4).toNat=2 * m+4:=by omega
 rw[e1] at hr
 have hl:(madeCells #[Value.int .i64 0] ((2 * m+4) * 1))=(nums .i64 (List.replicate (2 * m+4) 0)).toArray:=by
  apply Array.ext'
  apply List.ext_getElem
  ·simp[nums,madeCells]
  ·intro i h1 h2
   simp[nums,madeCells,Nat.mod_one]
 exact hr.trans (by rw[← hl];rfl)
theorem ringAt_len (X:Nat→Int) (m i:Nat) (h:i≤m):(ringAt X m i).length=2 * m+4:=by simp[ringAt];omega
theorem ringAt_set (X:Nat→Int) (m i:Nat) (h:i<m):(ringAt X m i).set i (X i)=ringAt X m (i+1):=by
 unfold ringAt
 rw[List.set_append_right _ _ (by simp),List.range_succ,List.map_append,List.append_assoc]
 congr 1
 simp only[List.length_map,List.length_range,Nat.sub_self,List.map_cons,List.map_nil,List.cons_append,List.nil_append]
 rw[show 2 * m+4 - i=(2 * m+4 - (i+1))+1 by omega,List.replicate_succ]
 rfl
set_option maxHeartbeats 1000000 in
set_option maxRecDepth 100000 in
theorem grow_nil (g:Nat) (w:World) (c0:w.cell? ⟨g,0,none⟩=some (.slice none 0 0)) (c2:w.cell? ⟨g,2,none⟩=some (.int .i64 0)) (f0:w.frozen? ⟨g,0,none⟩=false) (f1:w.frozen? ⟨g,1,none⟩=false) (c1:w.cell? ⟨g,1,none⟩=some (.int .i64 0)):
  Calls Try.prog 173 #[.pointer (some ⟨g,0,none⟩)] w fun e w'=>e= .returned (.tuple #[])∧w'=((w.alloc (.cells (nums .i64 (ringAt (fun _=>0) 0 0)).toArray 3)).setCell ⟨g,0,none⟩ (.slice (some ⟨w.heap.size,0,none⟩) 4 4)).setCell ⟨g,1,none⟩ (.int .i64 0):=by
 have hu:=Try.underlying193
 have hg:=World.block_lt_of_cell? w _ c0
 have hmk:=made_ring (fun _=>0) 0 (by omega)
 simp only[Int.ofNat_zero,Int.mul_zero,Int.zero_add,Nat.mul_zero,Nat.zero_add,Int.natCast_zero] at hmk
 go_enter Try.func173,Try.ntmps173
 go_wp2_with fail
 go_loopw [2,16] (fun v2 v16 w'=>v2= .slice (some ⟨w.heap.size,0,none⟩) 0 4∧v16= .int .i64 0∧Aside0 (w'=w.alloc (.cells (nums .i64 (ringAt (fun _=>0) 0 0)).toArray 3))) (fun _ _ _=>0)
 case atStart=>exact⟨rfl,rfl,⟨rfl⟩⟩
 case round=>
  obtain⟨rfl,rfl,HW⟩:=hrel
  have hw:=HW.out
  subst hw
  go_wp2_with fail
  exact bodyPost_end (results_none rfl _ _ _) rfl ⟨rfl,rfl⟩
theorem ring_put {W:World} {H:Nat} {X:Nat→Int} {m i:Nat} (h:W.heap[H]? =some (.cells (nums .i64 (ringAt X m i)).toArray 3 (0,0))) (hi:i<m):(W.setCells H (0+i * 1) [.int .i64 (X i)]).heap[H]? =some (.cells (nums .i64 (ringAt X m (i+1))).toArray 3 (0,0)):=by
 rw[show 0+i * 1=i by omega, ← ringAt_set X m i hi]
 refine(blk_set h i (.int .i64 (X i))).trans ?_
 simp[nums,List.map_set]
theorem below_cells {w W:World} {H o:Nat} {v:Value} (h:Below w.heap.size w W) (hH:w.heap.size≤H):Below w.heap.size w (W.setCells H o [v]):=below_set h hH
theorem far_keep {wr W:World} {H o:Nat} {vs:List Value} {a:Addr} {v:Value} (hc:wr.cell? a=some v) (hB:Below wr.heap.size wr W) (hne:a.block≠H):(W.setCells H o vs).cell? a=some v:=
 (World.cell?_of_block (setCells_far vs o a.block hne)).trans (pw_cell_below hB hc)
theorem spare_ok {W wr:World} {H i:Nat} {cs:Array Value} {x:Value} (hb:wr.heap[H]? =some (.cells cs 3 (0,0))) (hW:W.heap[H]? =wr.heap[H]?) (hi:i<cs.size): ∀ j,j<[x].length→(W.cell? ⟨H,0+i * 1+j,none⟩).isSome=true∧W.frozen? ⟨H,0+i * 1+j,none⟩=false:=by
 intro j hj
 have hj0:j=0:=by simpa using hj
 subst hj0
 have h:=hW.trans hb
 refine⟨?_,blk_frozen h _⟩
 rw[blk_cell h,show 0+i * 1+0=i by omega,Array.getElem?_eq_getElem hi]
 rfl
set_option maxHeartbeats 2000000 in
set_option maxRecDepth 100000 in
theorem grow_core (g b m fr:Nat) (X:Nat→Int) (w:World) (c0:w.cell? ⟨g,0,none⟩=some (.slice (some ⟨b,0,none⟩) m m)) (c1:w.cell? ⟨g,1,none⟩=some (.int .i64 fr)) (c2:w.cell? ⟨g,2,none⟩=some (.int .i64 m)) (hX: ∀ i,i<m→w.cell? ⟨b,(fr+i) % m,none⟩=some (.int .i64 (X i)))
  (f0:w.frozen? ⟨g,0,none⟩=false) (f1:w.frozen? ⟨g,1,none⟩=false) (hm0:0<m) (hm:m≤96) (hfr:fr<m):
  Calls Try.prog 173 #[.pointer (some ⟨g,0,none⟩)] w fun e w'=>e= .returned (.tuple #[])∧ ∃ w1,Below w.heap.size w w1∧w1.heap[w.heap.size]? =some (.cells (nums .i64 (ringAt X m m)).toArray 3 (0,0))∧w'=(w1.setCell ⟨g,0,none⟩ (.slice (some ⟨w.heap.size,0,none⟩) (2 * m+4) (2 * m+4))).setCell ⟨g,1,none⟩ (.int .i64 0):=by
 have hu:=Try.underlying193
 obtain⟨i0,hi,hzz⟩:=Option.map_eq_some_iff.1 info3
 simp only[Prod.mk.injEq] at hzz
 have HI:=Aside0.mk hi
 have HS1:=Aside0.mk hzz.2.1
 clear hi hzz
 have hg:=World.block_lt_of_cell? w _ c0
 have hb:=World.block_lt_of_cell? w _ (hX 0 hm0)
 have C0:=Aside0.mk c0
 have C1:=Aside0.mk c1
 have F0:=Aside0.mk f0
 have F1:=Aside0.mk f1
 have HX:=Aside0.mk hX
 have hmk:=made_ring X m (by omega)
 have q1:(m:Int)≤96:=by omega
 have q2:(0:Int)<(m:Int):=by omega
 clear hX
 go_enter Try.func173,Try.ntmps173
 go_wp2_with fail
 clear hmk c0 c1 c2 f0 f1
 go_loopw [2,16] (fun v2 v16 w'=> ∃ i:Nat,i≤m∧v16= .int .i64 i∧v2= .slice (some ⟨w.heap.size,0,none⟩) i (2 * m+4)∧Aside0 (w'.heap[w.heap.size]? =some (.cells (nums .i64 (ringAt X m i)).toArray 3 (0,0)))∧Aside0 (Below w.heap.size w w')) (fun _ v16 _=>m - (intOf v16).toNat)
 case atStart=>exact⟨0,Nat.zero_le _,rfl,rfl,⟨heap_alloc_new w _⟩,⟨below_alloc (Below.refl _ _) _⟩⟩
 case round=>
  obtain⟨i,hi,rfl,rfl,HR,HB⟩:=hrel
  by_cases hlt:i<m
  ·have e1:decide ((i:Int)<(m:Int))=true:=decide_eq_true (by omega)
   have c0:=pw_cell_below HB.out C0.out
   have c1:=pw_cell_below HB.out C1.out
   have cx:=pw_cell_below HB.out (HX.out i hlt)
   have hwr:IntKind.i64.wrap ((fr:Int)+(i:Int))=(fr:Int)+(i:Int):=IntWalk.i64_in _ (by omega)
   have htm:Int.tmod ((fr:Int)+(i:Int)) (m:Int)=(((fr+i) % m:Nat):Int):=rfl
   have hj1:=Nat.mod_lt (fr+i) hm0
   generalize (fr+i) % m=j at cx htm hj1
   have hj0:(0:Int)≤(j:Int):=by omega
   have hj2:(j:Int)<(m:Int):=by omega
   have hlw:=HB.out.size
   have hmz: ¬ m=0:=by omega
   go_wp2_with fail
   have KB:Below wr.heap.size wr (wr.alloc (.cells #[.int .i64 (X i)] 3)).drew:=below_drew (below_alloc (Below.refl _ _) _)
   have K0:=far_keep (H:=w.heap.size) (o:=0+i * 1) (vs:=[.int .i64 (X i)]) c0 KB (by show g≠_;omega)
   have K1:=far_keep (H:=w.heap.size) (o:=0+i * 1) (vs:=[.int .i64 (X i)]) c1 KB (by show g≠_;omega)
   have K2:=far_keep (H:=w.heap.size) (o:=0+i * 1) (vs:=[.int .i64 (X i)]) cx KB (by show b≠_;omega)
   have HR2:=Aside0.mk (ring_put (W:=(wr.alloc (.cells #[.int .i64 (X i)] 3)).drew) ((heap_alloc_old _ _ (blk_lt HR.out)).trans HR.out) hlt)
   have HB2:Aside0 (Below w.heap.size w ((wr.alloc (.cells #[.int .i64 (X i)] 3)).drew.setCells w.heap.size (0+i * 1) [.int .i64 (X i)])):=⟨below_cells (below_drew (below_alloc HB.out _)) (Nat.le_refl _)⟩
   go_region_held3 (fun w'=>w'.cell? ⟨g,0,none⟩=some (.slice (some ⟨b,0,none⟩) m m)∧w'.cell? ⟨g,1,none⟩=some (.int .i64 fr)∧w'.cell? ⟨b,j,none⟩=some (.int .i64 (X i))) (first|exact⟨K0,K1,K2⟩|(go_split_ands;exact⟨K0,K1,K2⟩)|go_keep)
    ((refine step_append_room rfl _ _ _ (by rfl) 3 i0 1 Try.underlying25 HI.out HS1.out w.heap.size 0 i (2 * m+4) (by rfl) ⟨wr.heap.size,0,none⟩ 1 1 [.int .i64 (X i)] (by rfl) (by rfl) (World.news_of_block (cs:= #[.int .i64 (X i)]) (t:=3) (fr:=(0,0)) (heap_alloc_new _ _)) (by simp[Value.oneCell']) (by omega) (spare_ok HR.out (heap_alloc_old _ _ (blk_lt HR.out)) (by simp[nums,ringAt_len _ _ _ hi];omega)) ?_))
   clear K0 K1 K2 KB c0 c1 cx htm hwr
   generalize (wr.alloc (.cells #[.int .i64 (X i)] 3)).drew.setCells w.heap.size (0+i * 1) [.int .i64 (X i)]=w9 at HR2 HB2 ⊢
   go_wp2_with fail
   go_roundw
   case rel=>exact⟨i+1,by omega,by go_num,rfl,HR2,HB2⟩
   case measure=>simp[intOf]<;>omega
  ·have ei:i=m:=by omega
   subst ei
   have e1:decide ((i:Int)<(i:Int))=false:=decide_eq_false (by omega)
   have c0:=pw_cell_below HB.out C0.out
   have c1:=pw_cell_below HB.out C1.out
   have f0:wr.frozen? ⟨g,0,none⟩=false:=(HB.out.frozen (p:=⟨g,0,none⟩) hg).trans F0.out
   have f1:wr.frozen? ⟨g,1,none⟩=false:=(HB.out.frozen (p:=⟨g,1,none⟩) hg).trans F1.out
   go_wp2_with fail
   refine bodyPost_end (results_none rfl _ _ _) rfl ⟨rfl,wr,HB.out,HR.out,rfl⟩
theorem ring_full (X:Nat→Int) (m i:Nat) (hi:i<m):(ringAt X m m).getD ((0+i) % (ringAt X m m).length) 0=X i:=by
 rw[ringAt_len X m m (Nat.le_refl _),Nat.zero_add,Nat.mod_eq_of_lt (by omega)]
 unfold ringAt
 rw[List.getD_eq_getElem?_getD,List.getElem?_append_left (by simpa using hi)]
 simp[hi]
theorem que_grow (g:Nat) (A:Option Addr) (R:List Int) (fr mo:Nat) (w:World) (h:Qu w g A R fr R.length mo):
  Calls Try.prog 173 #[.pointer (some ⟨g,0,none⟩)] w fun e w'=>e= .returned (.tuple #[])∧ ∃ R',R'.length=2 * R.length+4∧Qu w' g (some ⟨w.heap.size,0,none⟩) R' 0 R.length mo∧qL R' 0 R.length=qL R fr R.length∧Ks (fun k=>k=g) w w':=by
 have hg:=blk_lt h.hd
 have hs:=h.szm
 have h50:=h.mo50
 rcases h.ring with ⟨rfl,rfl⟩|⟨b,rfl,hp,hb⟩
 ·rcases h.frr with h1|⟨rfl,_⟩
  ·exact absurd h1 (by simp)
  refine(grow_nil g w ((blk_cell h.hd 0).trans rfl) ((blk_cell h.hd 2).trans rfl) (blk_frozen h.hd 0) (blk_frozen h.hd 1) ((blk_cell h.hd 1).trans rfl)).mono ?_
  rintro e w' ⟨rfl,rfl⟩
  have hw: ∀ o,(w.alloc o).heap[g]? =some (.cells #[.slice none 0 0, .int .i64 (0:Nat), .int .i64 (0:Nat), .int .i64 mo] 193 (0,0)):=fun o=>(heap_alloc_old _ _ hg).trans h.hd
  refine⟨rfl,ringAt (fun _=>0) 0 0,ringAt_len _ _ _ (Nat.le_refl _),⟨blk_set (blk_set (hw _) 0 _) 1 _, .inr ⟨_,rfl,by rw[ringAt_len _ _ _ (Nat.le_refl _)];omega,?_⟩,Nat.zero_le _, .inl (by rw[ringAt_len _ _ _ (Nat.le_refl _)];omega),hs,h50,by rw[ringAt_len _ _ _ (Nat.le_refl _)];omega⟩,rfl,?_⟩
  ·exact blk_far (blk_far (heap_alloc_new w _) (p:=⟨g,0,none⟩) (by show w.heap.size≠g;omega) _) (p:=⟨g,1,none⟩) (by show w.heap.size≠g;omega) _
  ·exact(((Ks.refl (fun k=>k=g) w).below (below_alloc (Below.refl _ _) _)).set (g:=g) (fun _=>rfl) 0 _).set (g:=g) (fun _=>rfl) 1 _
 ·have hfr:fr<R.length:=by
   rcases h.frr with h1|⟨_,h1⟩
   ·exact h1
   ·rw[h1] at hp;exact absurd hp (by simp)
  refine(grow_core g b R.length fr (fun i=>R.getD ((fr+i) % R.length) 0) w ((blk_cell h.hd 0).trans rfl) ((blk_cell h.hd 1).trans rfl) ((blk_cell h.hd 2).trans rfl) (fun i hi=>(blk_cell hb _).trans (nums_get R _ (Nat.mod_lt _ hp))) (blk_frozen h.hd 0) (blk_frozen h.hd 1) hp (by omega) hfr).mono ?_
  rintro e w' ⟨rfl,w1,hbw,hr,rfl⟩
  have hw:=(hbw.block g hg).trans h.hd
  have hl:=ringAt_len (fun i=>R.getD ((fr+i) % R.length) 0) R.length R.length (Nat.le_refl _)
  refine⟨rfl,ringAt (fun i=>R.getD ((fr+i) % R.length) 0) R.length R.length,hl,⟨?_, .inr ⟨_,rfl,by omega,?_⟩,by omega, .inl (by omega),hs,h50,by omega⟩,?_,?_⟩
  ·have h2:=blk_set (blk_set hw 0 (.slice (some ⟨w.heap.size,0,none⟩) (2 * R.length+4) (2 * R.length+4))) 1 (.int .i64 0)
   rw[hl]
   exact h2
  ·exact blk_far (blk_far hr (p:=⟨g,0,none⟩) (by show w.heap.size≠g;omega) _) (p:=⟨g,1,none⟩) (by show w.heap.size≠g;omega) _
  ·unfold qL
   apply List.map_congr_left
   intro i hi
   exact ring_full _ _ _ (List.mem_range.1 hi)
  ·exact(((Ks.refl (fun k=>k=g) w).below hbw).set (g:=g) (fun _=>rfl) 0 _).set (g:=g) (fun _=>rfl) 1 _
end Go.Proofs.Ytkcpanpdipmmmaa.H
namespace Go.Proofs.Ytkcpanpdipmmmaa.H
open Go.RowKit Go.Proofs.YtkcpanpdipmmmaaW.PrintWords Go.Proofs.YtkcpanpdipmmmaaW.PrintLast Go.Proofs.YtkcpanpdipmmmaaW.PrintMore Go.Proofs.Ytkcpanpdipmmmaa.P
attribute [local irreducible] wpQuiet
set_option maxHeartbeats 2000000 in
set_option maxRecDepth 100000 in
theorem put_core (g b m fr sz mo j:Nat) (x:Int) (w:World) (c0:w.cell? ⟨g,0,none⟩=some (.slice (some ⟨b,0,none⟩) m m)) (c1:w.cell? ⟨g,1,none⟩=some (.int .i64 fr)) (c2:w.cell? ⟨g,2,none⟩=some (.int .i64 sz)) (c3:w.cell? ⟨g,3,none⟩=some (.int .i64 mo)) (y:Int) (cx:w.cell? ⟨b,j,none⟩=some (.int .i64 y)) (hj:(fr+sz) % m=j)
  (f2:w.frozen? ⟨g,2,none⟩=false) (fx:w.frozen? ⟨b,j,none⟩=false) (hne:g≠b) (hsm:sz<m) (hmo:sz<mo) (hm:m≤200) (hfr:fr<m) (hmo2:mo≤50):
  Calls Try.prog 165 #[.pointer (some ⟨g,0,none⟩), .int .i64 x] w fun e w'=>e= .returned (.int .i64 0)∧w'=((w.setCell ⟨b,j,none⟩ (.int .i64 x)).setCell ⟨g,2,none⟩ (.int .i64 ((sz:Int)+1))).drew.drew.drew:=by
 have hu:=Try.underlying193
 have p0:(0:Int)≤(fr:Int):=by omega
 have p1:(fr:Int)<(m:Int):=by omega
 have p2:(m:Int)≤200:=by omega
 have p3:(sz:Int)<(m:Int):=by omega
 have p4:(0:Int)≤(sz:Int):=by omega
 have p5:(sz:Int)≤50:=by omega
 have p6:(0:Int)<(m:Int):=by omega
 have hj2:((fr:Int)+(sz:Int)) % (m:Int)=(j:Int):=by rw[← hj,Int.natCast_emod];rfl
 have hj1:(j:Int)<(m:Int):=by rw[← hj];have:=Nat.mod_lt (fr+sz) (show 0<m by omega);omega
 have hj0:(0:Int)≤(j:Int):=by omega
 have e1:((sz:Int) == (mo:Int))=false:=beq_eq_false_iff_ne.2 (by omega)
 have e2:((sz:Int) == (m:Int))=false:=beq_eq_false_iff_ne.2 (by omega)
 clear hj hsm hmo hfr
 go_enter Try.func165,Try.ntmps165
 go_wp2_with fail
 go_region
 go_wp2_with fail
 go_region
 go_wp2_with fail
 go_region
 go_wp2_with fail
 go_ret
 exact⟨rfl,rfl⟩
theorem qL_put (R:List Int) (fr sz:Nat) (x:Int) (h:sz<R.length):qL (R.set ((fr+sz) % R.length) x) fr (sz+1)=qL R fr sz ++ [x]:=by
 unfold qL
 rw[List.range_succ,List.map_append,List.length_set]
 congr 1
 ·apply List.map_congr_left
  intro i hi
  have hi:=List.mem_range.1 hi
  rw[getD_set_ne]
  intro e
  have h1:(fr+sz - (fr+i)) % R.length=0:=Nat.sub_mod_eq_zero_of_mod_eq e
  rw[show fr+sz - (fr+i)=sz - i by omega,Nat.mod_eq_of_lt (by omega)] at h1
  omega
 ·rw[List.map_cons,List.map_nil,getD_set_eq _ _ _ _ (Nat.mod_lt _ (by omega))]
theorem qu_put {w:World} {g b:Nat} {R:List Int} {fr sz mo:Nat} (h:Qu w g (some ⟨b,0,none⟩) R fr sz mo) (hs:sz<R.length) (hm:sz<mo) (x:Int):
  Qu ((w.setCell ⟨b,(fr+sz) % R.length,none⟩ (.int .i64 x)).setCell ⟨g,2,none⟩ (.int .i64 ((sz:Int)+1))) g (some ⟨b,0,none⟩) (R.set ((fr+sz) % R.length) x) fr (sz+1) mo:=by
 have hne:=h.ne
 have hring:w.heap[b]? =some (.cells (nums .i64 R).toArray 3 (0,0)):=by
  rcases h.ring with ⟨h1,_⟩|⟨c,h1,h2,h3⟩
  ·cases h1
  ·cases h1;exact h3
 refine⟨?_, .inr ⟨b,rfl,by rw[List.length_set];omega,?_⟩,by rw[List.length_set];omega,?_,hm,h.mo50,by rw[List.length_set];exact h.len⟩
 ·rw[List.length_set]
  exact blk_set (blk_far h.hd (p:=⟨b,(fr+sz) % R.length,none⟩) hne _) 2 _
 ·have h1:=blk_far (blk_set hring ((fr+sz) % R.length) (.int .i64 x)) (p:=⟨g,2,none⟩) (Ne.symm hne) (.int .i64 ((sz:Int)+1))
  refine h1.trans ?_
  simp[nums,List.map_set]
 ·rcases h.frr with h1|⟨_,h1⟩
  ·exact .inl (by rw[List.length_set];exact h1)
  ·rw[h1] at hs;exact absurd hs (by simp)
theorem que_put_room (g b:Nat) (R:List Int) (fr sz mo:Nat) (x:Int) (w:World) (h:Qu w g (some ⟨b,0,none⟩) R fr sz mo) (hs:sz<R.length) (hm:sz<mo):
  Calls Try.prog 165 #[.pointer (some ⟨g,0,none⟩), .int .i64 x] w fun e w'=>e= .returned (.int .i64 0)∧ ∃ R',Qu w' g (some ⟨b,0,none⟩) R' fr (sz+1) mo∧qL R' fr (sz+1)=qL R fr sz ++ [x]∧Ks (fun k=>k=g∨k=b) w w':=by
 have hring:w.heap[b]? =some (.cells (nums .i64 R).toArray 3 (0,0)):=by
  rcases h.ring with ⟨h1,_⟩|⟨c,h1,h2,h3⟩
  ·cases h1
  ·cases h1;exact h3
 have hfr:fr<R.length:=by
  rcases h.frr with h1|⟨_,h1⟩
  ·exact h1
  ·rw[h1] at hs;exact absurd hs (by simp)
 have hj:=Nat.mod_lt (fr+sz) (show 0<R.length by omega)
 have h50:=h.mo50
 have hl:=h.len
 refine(put_core g b R.length fr sz mo ((fr+sz) % R.length) x w ((blk_cell h.hd 0).trans rfl) ((blk_cell h.hd 1).trans rfl) ((blk_cell h.hd 2).trans rfl) ((blk_cell h.hd 3).trans rfl) _ ((blk_cell hring _).trans (nums_get R _ hj)) rfl (blk_frozen h.hd 2) (blk_frozen hring _) h.ne hs hm (by omega) hfr h50).mono ?_
 rintro e w' ⟨rfl,rfl⟩
 exact⟨rfl,_,(qu_put h hs hm x).below (below_drew (below_drew (below_drew (Below.refl _ _)))),qL_put R fr sz x hs,(((Ks.refl (fun k=>k=g∨k=b) w).set (g:=b) (fun _=> .inr rfl) _ _).set (g:=g) (fun _=> .inl rfl) _ _).below (below_drew (below_drew (below_drew (Below.refl _ _))))⟩
theorem que_grow_ (g:Nat) (A:Option Addr) (R:List Int) (fr m mo:Nat) (w:World) (hm:R.length=m) (h:Qu w g A R fr m mo):
  Calls Try.prog 173 #[.pointer (some ⟨g,0,none⟩)] w fun e w'=>e= .returned (.tuple #[])∧ ∃ R',R'.length=2 * m+4∧Qu w' g (some ⟨w.heap.size,0,none⟩) R' 0 m mo∧qL R' 0 m=qL R fr m∧Ks (fun k=>k=g) w w':=by
 subst hm
 exact que_grow g A R fr mo w h
set_option maxHeartbeats 2000000 in
set_option maxRecDepth 100000 in
theorem que_put_grow (g:Nat) (A:Option Addr) (R:List Int) (fr mo:Nat) (x:Int) (w:World) (h:Qu w g A R fr R.length mo) (hm:R.length<mo):
  Calls Try.prog 165 #[.pointer (some ⟨g,0,none⟩), .int .i64 x] w fun e w'=>e= .returned (.int .i64 0)∧ ∃ b R',w.heap.size≤b∧Qu w' g (some ⟨b,0,none⟩) R' 0 (R.length+1) mo∧qL R' 0 (R.length+1)=qL R fr R.length ++ [x]∧Ks (fun k=>k=g) w w':=by
 have hu:=Try.underlying193
 have H:=Aside0.mk h
 have h50:=h.mo50
 have c0:w.cell? ⟨g,0,none⟩=some (.slice A R.length R.length):=(blk_cell h.hd 0).trans rfl
 have c2:w.cell? ⟨g,2,none⟩=some (.int .i64 R.length):=(blk_cell h.hd 2).trans rfl
 have c3:w.cell? ⟨g,3,none⟩=some (.int .i64 mo):=(blk_cell h.hd 3).trans rfl
 generalize hml:R.length=m at *
 have HML:=Aside0.mk hml
 clear hml h
 have p4:(0:Int)≤(m:Int):=by omega
 have p5:(m:Int)≤50:=by omega
 have e1:((m:Int) == (mo:Int))=false:=beq_eq_false_iff_ne.2 (by omega)
 go_enter Try.func165,Try.ntmps165
 go_wp2_with fail
 go_region
 go_wp2_with fail
 go_region
 go_wp2_with fail
 clear c0 c2 c3
 go_wp2_with (first|(go_at_call 173;refine(que_grow_ g A R fr m mo _ HML.out (H.out.below (below_drew (below_drew (Below.refl _ _))))).mono ?_;rintro e_ w3 ⟨rfl,R',hl',hq,hql,hk⟩;obtain⟨b,hbe⟩: ∃ b_,b_=w.heap.size:=⟨_,rfl⟩;(have hq:Qu w3 g (some ⟨b,0,none⟩) R' 0 m mo:=by(rw[hbe];exact hq));have HBE:=Aside0.mk hbe;clear hbe;have HQ:=Aside0.mk hq;have HQL:=Aside0.mk hql;have HK:=Aside0.mk hk;clear hq hql hk;obtain⟨M,hM⟩: ∃ M_,M_=R'.length:=⟨_,rfl⟩;have c0:w3.cell? ⟨g,0,none⟩=some (.slice (some ⟨b,0,none⟩) M M):=by(rw[hM];exact(blk_cell HQ.out.hd 0).trans rfl))|fail)
 have hm1:m<M:=by omega
 have hm2:M≤104:=by omega
 have hring:w3.heap[b]? =some (.cells (nums .i64 R').toArray 3 (0,0)):=by
  rcases HQ.out.ring with ⟨h1,_⟩|⟨c,h1,h2,h3⟩
  ·cases h1
  ·cases h1;exact h3
 have hne:=HQ.out.ne
 have c1:w3.cell? ⟨g,1,none⟩=some (.int .i64 0):=(blk_cell HQ.out.hd 1).trans rfl
 have c2:w3.cell? ⟨g,2,none⟩=some (.int .i64 m):=(blk_cell HQ.out.hd 2).trans rfl
 have cx:w3.cell? ⟨b,m,none⟩=some (.int .i64 (R'.getD m 0)):=(blk_cell hring _).trans (nums_get R' _ (by omega))
 have fx:w3.frozen? ⟨b,m,none⟩=false:=blk_frozen hring _
 have f2:=blk_frozen HQ.out.hd 2
 generalize R'.getD m 0=yy at cx
 have HM:=Aside0.mk hM
 have HL:=Aside0.mk hl'
 clear hM hl' hring
 have q0:(0:Int)<(M:Int):=by omega
 have q1:(m:Int)<(M:Int):=by omega
 have q2:(M:Int)≤104:=by omega
 have hj2:(m:Int) % (M:Int)=(m:Int):=Int.emod_eq_of_lt p4 q1
 go_wp2_with fail
 go_region
 go_wp2_with fail
 go_ret
 have hmod:(0+m) % R'.length=m:=by rw[← HM.out,Nat.zero_add,Nat.mod_eq_of_lt hm1]
 have h1:=qu_put HQ.out (by rw[← HM.out];exact hm1) hm x
 have h2:=qL_put R' 0 m x (by rw[← HM.out];exact hm1)
 rw[hmod] at h1 h2
 refine⟨rfl,b,R'.set m x,by rw[HBE.out];exact Nat.le_refl _,?_,?_,?_⟩
 ·exact h1.below (below_drew (Below.refl _ _))
 ·exact h2.trans (by rw[HQL.out])
 ·have hk:Ks (fun k=>k=g) w w3:=HK.out.trans' (below_drew (below_drew (Below.refl _ _)))
  exact(((hk.set (g:=b) (fun hlt=>absurd hlt (by rw[HBE.out];exact Nat.lt_irrefl _)) _ _).set (g:=g) (fun _=>rfl) _ _)).below (below_drew (Below.refl _ _))
theorem que_new (mo:Nat) (w:World) (h50:mo≤50):
  Calls Try.prog 164 #[.int .i64 (mo:Int)] w fun e w'=> ∃ g,e= .returned (.tuple #[.pointer (some ⟨g,0,none⟩), .int .i64 0])∧w.heap.size≤g∧Qu w' g none [] 0 0 mo∧Below w.heap.size w w':=by
 have hrm:pile_room.f (mo:Int)=some true:=by
  unfold pile_room.f
  rw[if_pos (by omega)]
  simp
  omega
 have HRM:=Aside0.mk hrm
 clear hrm
 have hu:=Try.underlying193
 go_enter Try.func164,Try.ntmps164
 go_wp2_with (first|(go_at_call 172;refine(pile_room.calls (mo:Int) true _ HRM.out).mono ?_;rintro e_ w1 ⟨rfl,hd⟩;have HD:=Aside0.mk hd.below;clear hd)|fail)
 go_ret2
 have hw:=heap_alloc_new w1 (.cells #[.slice none 0 0, .int .i64 0, .int .i64 0, .int .i64 mo] 193)
 exact⟨w1.heap.size,rfl,HD.out.size,⟨hw, .inl ⟨rfl,rfl⟩,Nat.le_refl _, .inr ⟨rfl,rfl⟩,Nat.zero_le _,h50,Nat.zero_le _⟩,below_alloc HD.out _⟩
theorem que_put (g:Nat) (A:Option Addr) (R:List Int) (fr sz mo:Nat) (x:Int) (w:World) (h:Qu w g A R fr sz mo) (hm:sz<mo):
  Calls Try.prog 165 #[.pointer (some ⟨g,0,none⟩), .int .i64 x] w fun e w'=>e= .returned (.int .i64 0)∧ ∃ (A':Option Addr) (R':List Int) (fr':Nat),Qu w' g A' R' fr' (sz+1) mo∧qL R' fr' (sz+1)=qL R fr sz ++ [x]∧Ks (quS g A) w w'∧ ∀ k,quS g A' k→quS g A k∨w.heap.size≤k:=by
 by_cases hs:sz<R.length
 ·rcases h.ring with ⟨_,h1⟩|⟨b,rfl,_,_⟩
  ·rw[h1] at hs;exact absurd hs (by simp)
  ·refine(que_put_room g b R fr sz mo x w h hs hm).mono ?_
   rintro e w' ⟨rfl,R',h1,h2,h3⟩
   exact⟨rfl,_,R',fr,h1,h2,h3.mono (fun k hk _=>hk.elim .inl (fun h=> .inr ⟨_,rfl,h⟩)),fun k hk=> .inl hk⟩
 ·have e:sz=R.length:=by have:=h.szr;omega
  subst e
  refine(que_put_grow g A R fr mo x w h hm).mono ?_
  rintro e w' ⟨rfl,b,R',h1,h2,h3,h4⟩
  refine⟨rfl,_,R',0,h2,h3,h4.mono (fun k hk _=> .inl hk),fun k hk=> ?_⟩
  rcases hk with rfl|⟨a,ha,rfl⟩
  ·exact .inl (.inl rfl)
  ·cases ha;exact .inr h1
end Go.Proofs.Ytkcpanpdipmmmaa.H
namespace Go.Proofs.Ytkcpanpdipmmmaa.P
open Go.RowKit Go.Proofs.YtkcpanpdipmmmaaW.PrintWords Go.Proofs.YtkcpanpdipmmmaaW.PrintLast Go.Proofs.YtkcpanpdipmmmaaW.PrintMore
attribute [local go_sem] max2_int min2_int max_two min_two max_three min_three max_four min_four
def bits_Mul64.f (a0:Int) (a1:Int):Option (Int × Int):=some (IntKind.u64.wrap ((IntKind.u64.wrap ((IntKind.u64.wrap ((a0 / 4294967296) * (a1 / 4294967296)))+((IntKind.u64.wrap ((IntKind.u64.wrap ((a0 / 4294967296) * (Go.bits .and .u64 a1 4294967295)))+((IntKind.u64.wrap ((Go.bits .and .u64 a0 4294967295) * (Go.bits .and .u64 a1 4294967295))) / 4294967296))) / 4294967296)))+((IntKind.u64.wrap ((Go.bits .and .u64 (IntKind.u64.wrap ((IntKind.u64.wrap ((a0 / 4294967296) * (Go.bits .and .u64 a1 4294967295)))+((IntKind.u64.wrap ((Go.bits .and .u64 a0 4294967295) * (Go.bits .and .u64 a1 4294967295))) / 4294967296))) 4294967295)+(IntKind.u64.wrap ((Go.bits .and .u64 a0 4294967295) * (a1 / 4294967296))))) / 4294967296)),IntKind.u64.wrap (a0 * a1))
set_option maxHeartbeats 8000000 in
set_option maxRecDepth 100000 in
theorem bits_Mul64.calls (a0:Int) (a1:Int) (r1:Int) (r2:Int) (w:World) (h:bits_Mul64.f a0 a1=some (r1,r2)):
  Calls Try.prog 177 #[.int .u64 a0, .int .u64 a1] w fun e w'=>e= .returned (.tuple #[.int .u64 r1, .int .u64 r2])∧Drawn0 w w':=by
 have H:(some (IntKind.u64.wrap ((IntKind.u64.wrap ((IntKind.u64.wrap ((a0 / 4294967296) * (a1 / 4294967296)))+((IntKind.u64.wrap ((IntKind.u64.wrap ((a0 / 4294967296) * (Go.bits .and .u64 a1 4294967295)))+((IntKind.u64.wrap ((Go.bits .and .u64 a0 4294967295) * (Go.bits .and .u64 a1 4294967295))) / 4294967296))) / 4294967296)))+((IntKind.u64.wrap ((Go.bits .and .u64 (IntKind.u64.wrap ((IntKind.u64.wrap ((a0 / 4294967296) * (Go.bits .and .u64 a1 4294967295)))+((IntKind.u64.wrap ((Go.bits .and .u64 a0 4294967295) * (Go.bits .and .u64 a1 4294967295))) / 4294967296))) 4294967295)+(IntKind.u64.wrap ((Go.bits .and .u64 a0 4294967295) * (a1 / 4294967296))))) / 4294967296)),IntKind.u64.wrap (a0 * a1)))=some (r1,r2):=h
 clear h
 simp only[Option.some.injEq,Prod.mk.injEq] at H
 obtain⟨rfl,rfl⟩:=H
 go_enter Try.func177,Try.ntmps177
 go_wp2
 go_ret2
 exact⟨by first|rfl|(simp;done)|(simp[*];done),by repeat(first|exact Drawn0.refl _|apply Drawn0.step)⟩
end Go.Proofs.Ytkcpanpdipmmmaa.P
namespace Go.Proofs.Ytkcpanpdipmmmaa.P
open Go.RowKit Go.Proofs.YtkcpanpdipmmmaaW.PrintWords Go.Proofs.YtkcpanpdipmmmaaW.PrintLast Go.Proofs.YtkcpanpdipmmmaaW.PrintMore
attribute [local go_sem] max2_int min2_int max_two min_two max_three min_three max_four min_four
def bits_Mul.f (a0:Int) (a1:Int):Option (Int × Int):=(bits_Mul64.f a0 a1).bind fun bt438=>(some (bt438.1,bt438.2))
set_option maxHeartbeats 8000000 in
set_option maxRecDepth 100000 in
theorem bits_Mul.calls (a0:Int) (a1:Int) (r1:Int) (r2:Int) (w:World) (h:bits_Mul.f a0 a1=some (r1,r2)):
  Calls Try.prog 171 #[.int .u64 a0, .int .u64 a1] w fun e w'=>e= .returned (.tuple #[.int .u64 r1, .int .u64 r2])∧Drawn0 w w':=by
 have H:((bits_Mul64.f a0 a1).bind fun bt438=>(some (bt438.1,bt438.2)))=some (r1,r2):=h
 clear h
 replace H:=Option.bind_eq_some_iff.mp H
 obtain⟨⟨t438,t439⟩,A30,H⟩:=H
 replace H:(some (t438,t439))=some (r1,r2):=H
 have A3:=Aside0.mk A30
 clear A30
 simp only[Option.some.injEq,Prod.mk.injEq] at H
 obtain⟨rfl,rfl⟩:=H
 go_enter Try.func171,Try.ntmps171
 go_wp2_with (first|((with_reducible refine gate_callee (f:=177) rfl ?_);refine goesL_ (some 25) rfl rfl Try.func177 (by kernel_rfl) rfl #[.int .u64 a0, .int .u64 a1] rfl (by(try simp only[List.map_toArray,List.map_cons,List.map_nil]);first|done|rfl|(simp only[List.length_drop,List.length_take];rfl)) ?_;(with_reducible refine(bits_Mul64.calls a0 a1 t438 t439 _ A3.out).mono ?_);rintro e w' ⟨rfl,⟨nd,rfl⟩⟩;refine⟨_,rfl,?_⟩))
 go_ret2
 exact⟨by first|rfl|(simp;done)|(simp[*];done),by repeat(first|exact Drawn0.refl _|apply Drawn0.step)⟩
end Go.Proofs.Ytkcpanpdipmmmaa.P
namespace Go.Proofs.Ytkcpanpdipmmmaa.H
open Go.RowKit Go.Proofs.YtkcpanpdipmmmaaW.PrintWords Go.Proofs.YtkcpanpdipmmmaaW.PrintLast Go.Proofs.YtkcpanpdipmmmaaW.PrintMore Go.Proofs.Ytkcpanpdipmmmaa.P
attribute [local irreducible] wpQuiet
theorem mul_small: ∀ n:Nat,n<51→bits_Mul.f 1 (n:Int)=some (0,(n:Int)):=by decide +kernel
theorem info3s:(Try.prog.info? 3).map (·.size)=some 1:=by kernel_rfl
def repAt (x:Int) (n k:Nat):List Value:=nums .i64 (List.replicate k x ++ List.replicate (n - k) 0)
theorem repAt_len (x:Int) (n k:Nat) (h:k≤n):(repAt x n k).length=n:=by simp[repAt,nums];omega
theorem made_rep (x:Int) (n:Nat) (hn:n≤50): ∀ W:World,(Instr.makeSlice 25 (.int .i64 (n:Int)) (.int .i64 (n:Int))).run Try.prog W= .ok (.slice (some ⟨W.heap.size,0,none⟩) n n) (W.alloc (.cells (repAt x n 0).toArray 3)):=by
 intro W
 rw[print_make 25 3 .i64 8 Try.underlying25 (by kernel_rfl) (by omega) n (by omega) W]
 have hl:(madeCells #[Value.int .i64 0] n)=(repAt x n 0).toArray:=by
  apply Array.ext'
  apply List.ext_getElem
  ·simp[repAt,nums,madeCells]
  ·intro i h1 h2
   simp[repAt,nums,madeCells,Nat.mod_one]
 rw[hl]
theorem repAt_splice (x:Int) (n k m:Nat) (hk:k+m≤n):splice (repAt x n k) k (nums .i64 (List.replicate m x))=repAt x n (k+m):=by
 unfold repAt nums
 simp only[List.map_append,List.map_replicate]
 unfold splice
 rw[List.take_append_of_le_length (by simp),List.take_of_length_le (by simp),List.drop_append,List.drop_eq_nil_of_le (by simp),List.nil_append, ← List.append_assoc,List.replicate_append_replicate]
 simp
 omega
theorem nums_one (L:List Int): ∀ v,v∈nums .i64 L→v.oneCell'=true:=by
 intro v hv
 obtain⟨_,_,rfl⟩:=List.mem_map.1 hv
 rfl
theorem one_cell {W:World} {b:Nat} {u:Value} (hc:W.cell? ⟨b,0,none⟩=some u): ∀ (j:Nat) (v:Value),[u][j]? =some v→W.cell? ((⟨b,0,none⟩:Addr).add j)=some v:=by
 intro j v hv
 cases j with
 |zero=>rw[add_plain];injection hv with hv;rw[← hv];exact hc
 |succ j=>cases hv
set_option maxHeartbeats 2000000 in
set_option maxRecDepth 100000 in
theorem repeat_core (b c n:Nat) (x:Int) (w:World) (hb:w.cell? ⟨b,0,none⟩=some (.int .i64 x)) (hn0:0<n) (hn:n≤50):
  Calls Try.prog 163 #[.slice (some ⟨b,0,none⟩) 1 1, .int .i64 (n:Int)] w fun e w'=>e= .returned (.slice (some ⟨w.heap.size,0,none⟩) n n)∧w'.heap[w.heap.size]? =some (.cells (nums .i64 (List.replicate n x)).toArray 3 (0,0))∧Below w.heap.size w w':=by
 have hmul:=mul_small n (by omega)
 have HM:=Aside0.mk hmul
 clear hmul
 have hmk:=made_rep x n hn
 have hbl:=World.block_lt_of_cell? w _ hb
 have HBC:=Aside0.mk hb
 have q1:(n:Int)≤50:=by omega
 have q2:(0:Int)<(n:Int):=by omega
 have e1:decide ((n:Int)<0)=false:=decide_eq_false (by omega)
 go_enter Try.func163,Try.ntmps163
 go_wp2_with (first|(go_at_call 171;refine(bits_Mul.calls 1 (n:Int) 0 (n:Int) _ HM.out).mono ?_;rintro e_ w1 ⟨rfl,hd⟩;obtain⟨nq,hnq⟩:=hd.out;subst hnq)|((with_reducible refine wpList_copy_splice rfl (.tmp 31) (.tmp 32) 25 25 rfl 3 Try.underlying25 info3s (some ⟨w.heap.size,0,none⟩) (some ⟨b,0,none⟩) n n 1 1 rfl rfl w.heap.size 0 (repAt x n 0) 3 (heap_alloc_new _ _) [.int .i64 x] ?cn (fun _=>⟨rfl,⟨b,0,none⟩,rfl,?cc⟩) ?cf ?c1 w.heap.size w ?cb (Nat.le_refl _) ?_);(case cn=>(show 1=min 1 n;omega));(case cc=>exact one_cell (pw_cell_below (below_alloc (pw_below_drewN (Below.refl _ _) nq) _) HBC.out));(case cf=>(rw[repAt_len x n 0 (Nat.zero_le _)];show 0+1≤n;omega));(case c1=>simp[Value.oneCell']);(case cb=>exact below_alloc (pw_below_drewN (Below.refl _ _) nq) _);intro w2 hr hbw;have HR:=Aside0.mk (hr.trans (by rw[show ([.int .i64 x]:List Value)=nums .i64 (List.replicate 1 x) from rfl,repAt_splice x n 0 1 (by omega)]));have HB:=Aside0.mk hbw;clear hr hbw)|fail)
 clear hmk
 go_loopw [8] (fun v8 w'=> ∃ k:Nat,0<k∧k≤n∧v8= .int .i64 k∧Aside0 (w'.heap[w.heap.size]? =some (.cells (repAt x n k).toArray 3 (0,0)))∧Aside0 (Below w.heap.size w w')) (fun v8 _=>n - (intOf v8).toNat)
 case atStart=>exact⟨1,by omega,by omega,rfl,HR,HB⟩
 case round=>
  clear HR HB
  obtain⟨k,hk0,hk,rfl,HR,HB⟩:=hrel
  by_cases hlt:k<n
  ·have e2:decide ((k:Int)<(n:Int))=true:=decide_eq_true (by omega)
   have r0:(0:Int)≤(k:Int):=by omega
   have r1:(k:Int)≤(n:Int):=by omega
   have r2:(k:Int)<(n:Int):=by omega
   have r3: ¬ n=k:=by omega
   obtain⟨m,hm⟩: ∃ m_,m_=min k (n - k):=⟨_,rfl⟩
   have hm1:k+m≤n:=by omega
   have hm2:0<m:=by omega
   have hm3:m≤k:=by omega
   have hsrc: ∀ (W:World),W.heap=wr.heap→ ∀ (j:Nat) (v:Value),(nums .i64 (List.replicate m x))[j]? =some v→W.cell? ((⟨w.heap.size,0,none⟩:Addr).add j)=some v:=by
    intro W hW j v hv
    rw[add_plain,World.cell?_of_block (w:=wr) (by rw[hW]),blk_cell HR.out j]
    have hj:j<m:=by have:=(List.getElem?_eq_some_iff.1 hv).1;simpa [nums] using this
    rw[← hv]
    simp only[repAt,nums,List.map_append,List.map_replicate,List.getElem?_toArray]
    rw[List.getElem?_append_left (by simp;omega),List.getElem?_replicate,List.getElem?_replicate,if_pos (by omega),if_pos hj]
   have HS:=Aside0.mk hsrc
   have HM2:Aside0 ((nums .i64 (List.replicate m x)).length=Nat.min k (n - k)):=⟨by rw[nums_length,List.length_replicate];exact hm⟩
   have HFT:Aside0 (k+(nums .i64 (List.replicate m x)).length≤(repAt x n k).length):=⟨by rw[repAt_len x n k hk,nums_length,List.length_replicate];exact hm1⟩
   clear hsrc hm
   have hwr:IntKind.i64.wrap ((k:Int)+(m:Int))=(k:Int)+(m:Int):=IntWalk.i64_in _ (by omega)
   go_wp2_with fail
   go_region_held3 (fun w'=>True) (trivial)
    ((refine step_copy_splice rfl _ _ 25 25 (by rfl) 3 Try.underlying25 info3s (some ⟨w.heap.size,k,none⟩) (some ⟨w.heap.size,0,none⟩) (n - k) (n - k) k n (by rfl) (by rfl) w.heap.size k (repAt x n k) 3 HR.out _ HM2.out (fun _=>⟨rfl,⟨w.heap.size,0,none⟩,rfl,HS.out _ (by rfl)⟩) HFT.out (nums_one _) w.heap.size w (below_drew HB.out) (Nat.le_refl _) ?_;intro w9 hr9 hb9))
   have HR9:Aside0 (w9.heap[w.heap.size]? =some (.cells (repAt x n (k+m)).toArray 3 (0,0))):=⟨by rw[← repAt_splice x n k m hm1];exact hr9⟩
   have HB9:=Aside0.mk hb9
   rw[nums_length,List.length_replicate,hwr]
   clear hr9 hb9 hwr HM2 HFT HS
   go_wp2_with fail
   go_roundw
   case rel=>exact⟨k+m,by omega,hm1,by go_num,HR9,HB9⟩
   case measure=>simp[intOf];omega
  ·have ek:k=n:=by omega
   subst ek
   have e2:decide ((k:Int)<(k:Int))=false:=decide_eq_false (by omega)
   go_wp2_with fail
   go_ret
   exact⟨rfl,HR.out.trans (by simp[repAt]),HB.out⟩
end Go.Proofs.Ytkcpanpdipmmmaa.H
namespace Go.Proofs.Ytkcpanpdipmmmaa.H
theorem exists_least {P:Nat→Prop} : ∀ m,P m→ ∃ n,P n∧ ∀ k,P k→n≤k:=by
 intro m
 induction m using Nat.strongRecOn with
 |_ m ih=>
  intro hm
  by_cases h: ∃ k,k<m∧P k
  ·obtain⟨k,hk,hp⟩:=h
   exact ih k hk hp
  ·exact⟨m,hm,fun k hk=>Nat.le_of_not_lt fun hl=>h ⟨k,hl,hk⟩⟩
open Classical in
noncomputable def least (P:Nat→Prop):Nat:=if h: ∃ n,P n∧ ∀ k,P k→n≤k then Classical.choose h else 0
theorem least_both {P:Nat→Prop} (h: ∃ m,P m):P (least P)∧ ∀ k,P k→least P≤k:=by
 obtain⟨m,hm⟩:=h
 unfold least
 rw[dif_pos (exists_least m hm)]
 exact Classical.choose_spec (exists_least m hm)
theorem least_spec {P:Nat→Prop} (h: ∃ m,P m):P (least P):=(least_both h).1
theorem least_le {P:Nat→Prop} {m:Nat} (h:P m):least P≤m:=(least_both ⟨m,h⟩).2 m h
theorem least_lt {P Q:Nat→Prop} {m:Nat} (h:Q m) (hm:m<least P):least Q<least P:=Nat.lt_of_le_of_lt (least_le h) hm
end Go.Proofs.Ytkcpanpdipmmmaa.H
namespace Go.Proofs.Ytkcpanpdipmmmaa.H
open Go.RowKit Go.Proofs.YtkcpanpdipmmmaaW.PrintWords Go.Proofs.YtkcpanpdipmmmaaW.PrintLast Go.Proofs.YtkcpanpdipmmmaaW.PrintMore Go.Proofs.Ytkcpanpdipmmmaa.P
attribute [local irreducible] wpQuiet
def stz (n:Nat):List Value:=stC (List.replicate n z38)
theorem made_steps (n:Nat) (hn:n≤50): ∀ W:World,(Instr.makeSlice 34 (.int .i64 (n:Int)) (.int .i64 (n:Int))).run Try.prog W= .ok (.slice (some ⟨W.heap.size,0,none⟩) n n) (W.alloc (.cells (stz n).toArray 38)):=by
 intro W
 obtain⟨i0,hi,hzz⟩:=Option.map_eq_some_iff.1 info38
 simp only[Prod.mk.injEq] at hzz
 obtain⟨hz0,hz1,hz2⟩:=hzz
 have hr:=run_make (P:=Try.prog) W 34 38 i0 _ Try.underlying34 hi hz0 .i64 .i64 (n:Int) (n:Int) (by omega) (by omega) (by rw[hz2];omega) (by omega)
 rw[hz1] at hr
 simp only[Int.toNat_natCast] at hr
 have hl:(madeCells (Value.agg #[.int .i64 0, .bool false]).cells (n * 2))=(stz n).toArray:=by
  apply Array.ext'
  apply List.ext_getElem?
  intro i
  unfold stz
  by_cases h:i<n * 2
  ·have h2:=stC_get z38 (List.replicate n z38) (i / 2) (by simp;omega)
   have hg:(List.replicate n z38).getD (i / 2) z38=z38:=by
    rw[List.getD_eq_getElem?_getD,List.getElem?_replicate,if_pos (by omega)];rfl
   rw[hg] at h2
   rcases Nat.mod_two_eq_zero_or_one i with hm|hm
   ·rw[show i / 2 * 2=i by omega] at h2
    show _=(stC _)[i]?
    rw[h2.1]
    simp[madeCells,Value.cells,h,hm,z38]
   ·rw[show i / 2 * 2+1=i by omega] at h2
    show _=(stC _)[i]?
    rw[h2.2]
    simp[madeCells,Value.cells,h,hm,z38]
  ·rw[List.getElem?_eq_none (by simp[size_madeCells];omega),List.getElem?_eq_none (by simp[stC_len];omega)]
 rw[← hl]
 exact hr
structure Sm (n0:Nat) (a0_1:Bool) (A2:Option Addr) (c2:Nat) (l:List S74) (A3:Option Addr) (c3:Nat) (F:List Int) (A4:Option Addr) (c4:Nat) (g3 gd gb gq:Nat) (w:World) (st:List (Fd S38)) (i:Nat) (w':World):Prop where
 D:IsI w' gd (dOf n0 st)
 B:IsS w' gb (bOf z38 n0 st)
 b3:w'.heap[g3]? =some (.cells #[.int .i64 n0, .bool a0_1, .slice A2 l.length c2, .slice A3 F.length c3, .slice A4 n0 c4] 118 (0,0))
 que: ∃ (A:Option Addr) (R:List Int) (fr:Nat),Qu w' gq A R fr (st.length - i) n0∧qL R fr (st.length - i)=qOf st i∧ ∀ k,quS gq A k→w.heap.size≤k∧k≠gd∧k≠gb∧k≠g3
 below:Below w.heap.size w w'
theorem Sm.step {n0:Nat} {a0_1:Bool} {A2:Option Addr} {c2:Nat} {l:List S74} {A3:Option Addr} {c3:Nat} {F:List Int} {A4:Option Addr} {c4:Nat} {g3 gd gb gq:Nat} {w:World} {st:List (Fd S38)} {i:Nat} {w1 w2:World}
  (h:Sm n0 a0_1 A2 c2 l A3 c3 F A4 c4 g3 gd gb gq w st i w1) (hb:Below w1.heap.size w1 w2):Sm n0 a0_1 A2 c2 l A3 c3 F A4 c4 g3 gd gb gq w st i w2:=by
 obtain⟨A,R,fr,h1,h2,h3⟩:=h.que
 exact⟨h.D.below hb,h.B.below hb,blk_below h.b3 hb,⟨A,R,fr,h1.below hb,h2,h3⟩,below_step h.below hb⟩
def seekW (w:World) (gd gb u:Nat) (a:Int) (e:S38):World:=(((w.setCell ⟨gd,u,none⟩ (.int .i64 a)).setCell ⟨gb,u * 2,none⟩ (.int .i64 e.f0)).setCell ⟨gb,u * 2+1,none⟩ (.bool e.f1)).drew
theorem seek_far (w:World) {gd gb g:Nat} (u:Nat) (a:Int) (e:S38) (h1:g≠gd) (h2:g≠gb):(seekW w gd gb u a e).heap[g]? =w.heap[g]? :=
 (Below.heap_setCell _ ⟨gb,u * 2+1,none⟩ _ g h2).trans ((Below.heap_setCell _ ⟨gb,u * 2,none⟩ _ g h2).trans (Below.heap_setCell _ ⟨gd,u,none⟩ _ g h1))
theorem seek_D {w:World} {gd gb:Nat} {D:List Int} (h:IsI w gd D) (hne:gd≠gb) (u:Nat) (a:Int) (e:S38):IsI (seekW w gd gb u a e) gd (D.set u a):=
 IsI.below ((((h.put u a).far (p:=⟨gb,u * 2,none⟩) hne _)).far (p:=⟨gb,u * 2+1,none⟩) hne _) (below_drew (Below.refl _ _))
theorem seek_B {w:World} {gd gb:Nat} {B:List S38} (h:IsS w gb B) (hne:gd≠gb) (u:Nat) (a:Int) (e:S38):IsS (seekW w gd gb u a e) gb (B.set u e):=
 IsS.below ((h.far (p:=⟨gd,u,none⟩) (Ne.symm hne) _).put u e) (below_drew (Below.refl _ _))
def SR (n0:Nat) (a0_1:Bool) (A2:Option Addr) (c2:Nat) (l:List S74) (A3:Option Addr) (c3:Nat) (F:List Int) (A4:Option Addr) (c4:Nat) (g3 gd gb gq s:Nat) (t:Int) (w w':World) (m:Nat):Prop:=
 ∃ (st:List (Fd S38)) (i:Nat),m=n0 - i∧Lp l F n0 s t st i∧Sm n0 a0_1 A2 c2 l A3 c3 F A4 c4 g3 gd gb gq w st i w'
set_option maxHeartbeats 2000000 in
set_option maxRecDepth 100000 in
theorem seek_calls (n0:Nat) (a0_1:Bool) (A2:Option Addr) (c2:Nat) (l:List S74) (A3:Option Addr) (c3:Nat) (F:List Int) (A4:Option Addr) (c4:Nat) (s:Nat) (t:Int) (w:World)
  (hR:Right l F n0) (hs:s<n0) (hts:t≠s) (hc2:l.length≤c2) (hc3:F.length≤c3) (h2:Kd.C k74 w A2 l.length l) (h3:Kd.C (Kd.int .i64) w A3 F.length F) (h4:(Kd.slice 38 k38).C w A4 n0 (rowsAt l n0 n0)):
  Calls Try.prog 145 #[.agg #[.int .i64 n0, .bool a0_1, .slice A2 l.length c2, .slice A3 F.length c3, .slice A4 n0 c4], .int .i64 (s:Int), .int .i64 t] w fun e w'=> ∃ (gd gb:Nat) (st:List (Fd S38)),e= .returned (.tuple #[.slice (some ⟨gd,0,none⟩) n0 n0, .slice (some ⟨gb,0,none⟩) n0 n0])∧w.heap.size≤gd∧w.heap.size≤gb∧gd≠gb∧IsI w' gd (dOf n0 st)∧IsS w' gb (bOf z38 n0 st)∧Below w.heap.size w w'∧Seen l F n0 s t st:=by
 have hu24:=Try.underlying24
 have hu115:=Try.underlying115
 have hu118:=Try.underlying118
 have HR:=Aside0.mk hR
 have HC2:=Aside0.mk hc2
 have HC3:=Aside0.mk hc3
 have H2:=Aside0.mk h2
 have H3:=Aside0.mk h3
 have H4:=Aside0.mk h4
 have HTS:=Aside0.mk hts
 have hn50:n0≤50:=hR.fifty
 have hn0:0<n0:=hR.pos
 obtain⟨ad4,eA4⟩: ∃ ad,A4=some ad:=by
  obtain⟨ad,c,h_,_⟩:=Kd.C_get H4.out [] (0:Int) (by omega) (by omega)
  exact⟨ad,h_⟩
 subst eA4
 have hmk:=made_steps n0 hn50
 have HB:=Aside0.mk (Below.refl w.heap.size w)
 clear hR h2 h3 h4 hc2 hc3 hts
 go_enter Try.func145,Try.ntmps145
 go_upto_region 1 with (first|((with_reducible refine gate_dst (N:=3) rfl ?_);refine box_event ?hg (N:=3) ?hd (cs:= #[.int .i64 n0, .bool a0_1, .slice A2 l.length c2, .slice A3 F.length c3, .slice (some ad4) n0 c4]) (t:=118) ?hr ?_;(case hd=>rfl);(case hg=>rfl);(case hr=>first|(go_simp;done)|(go_simp;rfl));intro g3 hg w5 hbox hb;have n0_:=Aside0.mk (below_step HB.out hb);have B3:=Aside0.mk hbox;clear HB;have HB:=n0_;have GE3:Aside0 (w.heap.size≤g3):=⟨Nat.le_of_eq hg.symm⟩;clear n0_ hb hbox hg)|fail)
 have hc0:w5.cell? ⟨g3,0,none⟩=some (.int .i64 n0):=(blk_cell B3.out 0).trans rfl
 go_step3
 go_upto_region 1 with fail
 go_cut [6,7] (fun v6 v7 wx=> ∃ gd gb:Nat,v6= .slice (some ⟨gd,0,none⟩) n0 n0∧v7= .slice (some ⟨gb,0,none⟩) n0 n0∧Aside0 (IsI wx gd (List.replicate n0 (-1)))∧Aside0 (IsS wx gb (List.replicate n0 z38))∧Aside0 (w5.heap.size≤gd∧w5.heap.size≤gb∧gd≠gb)∧Aside0 (Below w5.heap.size w5 wx))
 case first=>
  go_region_held3 (fun w'=>w'.cell? ⟨g3,0,none⟩=some (.int .i64 n0)) (first|(exact pw_cell_below (below_drew (Below.refl _ _)) (by assumption))|(exact pw_cell_below (below_alloc (Below.refl _ _) _) (by assumption))|(exact pw_cell_below hbr (by assumption))|go_keep)
   (first|(go_at_call 163;refine(repeat_core _ 1 n0 (-1) _ (by simp[go_sem]) hn0 hn50).mono ?_;rintro e_ w6 ⟨rfl,hrep,hbr⟩))
  ·go_wp2_with fail
   go_meet
   have hbb:=below_step (below_drew (below_alloc (Below.refl w5.heap.size w5) _)) hbr
   have hsz:=hbr.size
   have e1:(w5.alloc (.cells #[.int .i64 (-1)] 3)).drew.heap.size=w5.heap.size+1:=by simp
   rw[e1] at hrep hsz
   exact⟨w5.heap.size+1,w6.heap.size,rfl,rfl,⟨IsI.below hrep (below_alloc (Below.refl _ _) _)⟩,⟨heap_alloc_new w6 _⟩,⟨Nat.le_succ _,Nat.le_of_succ_le hsz,Nat.ne_of_lt (blk_lt hrep)⟩,⟨below_alloc hbb _⟩⟩
  ·go_wp2_with fail
   go_meet
   have hbb:=below_step (below_drew (below_alloc (below_alloc (Below.refl w5.heap.size w5) _) _)) hbr
   have hsz:=hbr.size
   have e1:((w5.alloc (.cells #[.int .i64 (-1)] 3)).alloc (.cells (stz n0).toArray 38)).drew.heap.size=w5.heap.size+2:=by simp
   rw[e1] at hrep hsz
   have hst:IsS w6 (w5.heap.size+1) (List.replicate n0 z38):=by
    refine IsS.below (w:=((w5.alloc (.cells #[.int .i64 (-1)] 3)).alloc (.cells (stz n0).toArray 38)).drew) ?_ hbr
    have h_:=heap_alloc_new (w5.alloc (.cells #[.int .i64 (-1)] 3)) (.cells (stz n0).toArray 38)
    have e2:(w5.alloc (.cells #[.int .i64 (-1)] 3)).heap.size=w5.heap.size+1:=by simp
    rw[e2] at h_
    exact h_
   exact⟨w5.heap.size+2,w5.heap.size+1,rfl,rfl,⟨hrep⟩,⟨hst⟩,⟨by omega,by omega,by omega⟩,⟨hbb⟩⟩
  ·go_wp2_with fail
   go_meet
   have hbb:=below_step (below_drew (below_alloc (below_alloc (Below.refl w5.heap.size w5) _) _)) hbr
   have hsz:=hbr.size
   have e1:((w5.alloc (.cells (stz n0).toArray 38)).alloc (.cells #[.int .i64 (-1)] 3)).drew.heap.size=w5.heap.size+2:=by simp
   rw[e1] at hrep hsz
   have hst:IsS w6 w5.heap.size (List.replicate n0 z38):=by
    refine IsS.below (w:=((w5.alloc (.cells (stz n0).toArray 38)).alloc (.cells #[.int .i64 (-1)] 3)).drew) ?_ hbr
    exact IsS.below (w:=w5.alloc (.cells (stz n0).toArray 38)) (heap_alloc_new w5 _) (below_drew (below_alloc (Below.refl _ _) _))
   exact⟨w5.heap.size+2,w5.heap.size,rfl,rfl,⟨hrep⟩,⟨hst⟩,⟨by omega,by omega,by omega⟩,⟨hbb⟩⟩
 case rest=>
  obtain⟨gd,gb,rfl,rfl,HD,HS,HG,HBC⟩:=hcut
  have m0_:=Aside0.mk (below_step HB.out HBC.out)
  have m1_:=Aside0.mk (blk_below B3.out HBC.out)
  clear hmk hc0
  have GD:Aside0 (g3≠gd∧g3≠gb∧gd≠gb∧w.heap.size≤gd∧w.heap.size≤gb):=⟨by have h1:=blk_lt B3.out;have h2:=HG.out;have h3:=HB.out.size;omega⟩
  clear HB B3 HG HBC
  have HB:=m0_
  have B3:=m1_
  clear m0_ m1_
  have hd0:wc.cell? ⟨gd,s,none⟩=some (.int .i64 ((List.replicate n0 (-1:Int)).getD s 0)):=HD.out.cell (by simpa using hs)
  have hf0:=HD.out.free s
  have ps:(0:Int)≤(s:Int):=by omega
  have qs:(s:Int)<(n0:Int):=by omega
  have hc0:wc.cell? ⟨g3,0,none⟩=some (.int .i64 n0):=(blk_cell B3.out 0).trans rfl
  have hn3:g3≠gd:=GD.out.1
  go_wp2_with fail
  have m0_:Aside0 (IsI (wc.setCell ⟨gd,s,none⟩ (.int .i64 0)) gd (dOf n0 [⟨s,z38,0⟩])):=⟨by rw[dOf_one];exact HD.out.put s 0⟩
  have m1_:Aside0 (IsS (wc.setCell ⟨gd,s,none⟩ (.int .i64 0)) gb (bOf z38 n0 [⟨s,z38,0⟩])):=⟨by rw[bOf_one];exact HS.out.far (by have:=GD.out;show gb≠gd;omega) _⟩
  have m2_:Aside0 ((wc.setCell ⟨gd,s,none⟩ (.int .i64 0)).heap[g3]? =some (.cells #[.int .i64 n0, .bool a0_1, .slice A2 l.length c2, .slice A3 F.length c3, .slice (some ad4) n0 c4] 118 (0,0))):=⟨blk_far B3.out (p:=⟨gd,s,none⟩) hn3 _⟩
  have m3_:=Aside0.mk (below_set (j:=s) (v:= .int .i64 0) HB.out GD.out.2.2.2.1)
  clear HD HS B3 HB hd0 hf0 hc0 hn3
  have HD:=m0_
  have HS:=m1_
  have B3:=m2_
  have HB:=m3_
  clear m0_ m1_ m2_ m3_
  generalize wc.setCell ⟨gd,s,none⟩ (.int .i64 0)=w8 at *
  go_wp2_with (first|(go_at_call 164;refine(que_new n0 _ hn50).mono ?_;rintro e_ w9 ⟨gq,rfl,hge,hq,hbq⟩;have m0_:=Aside0.mk (HD.out.below hbq);have m1_:=Aside0.mk (HS.out.below hbq);have m2_:=Aside0.mk (blk_below B3.out hbq);have m3_:=Aside0.mk (below_step HB.out hbq);have GQ:Aside0 (w.heap.size≤gq∧gq≠gd∧gq≠gb∧gq≠g3):=⟨by have h1:=HD.out.lt;have h2:=HS.out.lt;have h3:=blk_lt B3.out;have h4:=HB.out.size;omega⟩;have HQ:=Aside0.mk hq;clear HD HS B3 HB hq hbq hge;have HD:=m0_;have HS:=m1_;have B3:=m2_;have HB:=m3_;clear m0_ m1_ m2_ m3_)|(go_at_call 165;refine(que_put_grow gq none [] 0 n0 (s:Int) _ HQ.out hn0).mono ?_;rintro e_ w10 ⟨rfl,bq,R1,hbq,hq,hql,hk⟩;have HM:Aside0 (Sm n0 a0_1 A2 c2 l A3 c3 F (some ad4) c4 g3 gd gb gq w [⟨s,z38,0⟩] 0 w10):=⟨⟨HD.out.kept hk (Ne.symm GQ.out.2.1),HS.out.kept hk (Ne.symm GQ.out.2.2.1),hk.blk B3.out (Ne.symm GQ.out.2.2.2),⟨_,R1,0,hq,hql,fun k hk2=>(by rcases hk2 with rfl|⟨a,ha,rfl⟩;exact GQ.out;cases ha;have h1:=HD.out.lt;have h2:=HS.out.lt;have h3:=blk_lt B3.out;have h4:=HB.out.size;show w.heap.size≤bq∧bq≠gd∧bq≠gb∧bq≠g3;omega)⟩,hk.toBelow HB.out HB.out.size (fun b hb=>by have:=GQ.out;omega)⟩⟩;clear HD HS B3 HB HQ hq hql hk hbq)|fail)
  go_step3
  go_wp2_with fail
  go_loopw [10] (fun v10 w'=> ∃ m,SR n0 a0_1 A2 c2 l A3 c3 F (some ad4) c4 g3 gd gb gq s t w w' m) (fun _ w'=>least (SR n0 a0_1 A2 c2 l A3 c3 F (some ad4) c4 g3 gd gb gq s t w w'))
  case atStart=>exact⟨_,_,_,rfl,lp_start hs HTS.out,HM.out⟩
  case round=>
   clear HM
   have hsp:=least_spec hrel
   obtain⟨M,hM⟩: ∃ M_,M_=least (SR n0 a0_1 A2 c2 l A3 c3 F (some ad4) c4 g3 gd gb gq s t w wr):=⟨_,rfl⟩
   rw[← hM] at hsp
   have HLE:=Aside0.mk hM
   clear hM hrel
   obtain⟨st,i,hmi,hlp,hsm⟩:=hsp
   have HMI:=Aside0.mk hmi
   have HLP:=Aside0.mk hlp
   have HSM:=Aside0.mk hsm
   clear hmi hlp hsm
   have hstn:=HLP.out.len HR.out hs
   have hile:=HLP.out.ile
   obtain⟨A,R,fr,hq,hql,hsep⟩:=HSM.out.que
   by_cases hlt:i<st.length
   ·obtain⟨x,hx⟩: ∃ x,st[i]? =some x:=⟨_,List.getElem?_eq_getElem hlt⟩
    obtain⟨k,hk⟩: ∃ k,st.length - i=k+1:=⟨st.length - i - 1,by omega⟩
    rw[hk] at hq hql
    have hk2:st.length - (i+1)=k:=by omega
    obtain⟨bq,eA⟩: ∃ b,A=some ⟨b,0,none⟩:=by
     rcases hq.ring with ⟨_,h1⟩|⟨b,h1,_⟩
     ·have:=hq.szr;rw[h1] at this;simp at this
     ·exact⟨b,h1⟩
    subst eA
    have hfr:fr<R.length:=by
     rcases hq.frr with h1|⟨_,h1⟩
     ·exact h1
     ·have:=hq.szr;rw[h1] at this;simp at this
    rw[qL_take R fr k hfr,qOf_cons hx] at hql
    injection hql with hv hql
    have hxn:x.v<n0:=fds_lt HLP.out.upto.fds (esP_to HR.out) hs _ (List.mem_map_of_mem (List.mem_of_getElem? hx))
    have HTK:=Aside0.mk (by have h_:=que_take gq bq R fr k n0 wr hq;rw[hv] at h_;exact h_)
    have HQL:=Aside0.mk hql
    have HSEP:=Aside0.mk hsep
    have HX:=Aside0.mk hx
    have HQ:=Aside0.mk hq
    have HK2:=Aside0.mk hk2
    obtain⟨ad,cv0,had,_,hKv,hcell⟩:=Kd.C_get H4.out [] (x.v:Int) (by omega) (by omega)
    cases had
    have hrow:(rowsAt l n0 n0).getD (x.v:Int).toNat []=stL l x.v l.length:=by rw[Int.toNat_natCast,List.getD_eq_getElem?_getD,rowsAt_get l n0 n0 _ hxn,if_pos hxn];rfl
    rw[hrow] at hKv
    obtain⟨Av,cv,rfl,hlv,hCv⟩:=hKv
    have hrw:=hcell 0 _ rfl
    have e0:(x.v:Int).toNat * (Kd.slice 38 k38).sz+0=x.v:=by rw[Int.toNat_natCast];show x.v * 1+0=x.v;omega
    rw[e0] at hrw
    have HCV:=Aside0.mk hCv
    have HRC:=Aside0.mk hrw
    have px:(0:Int)≤(x.v:Int):=by omega
    have qx:(x.v:Int)<(n0:Int):=by omega
    obtain⟨v,hvx⟩: ∃ v_,v_=x.v:=⟨_,rfl⟩
    have hlen4:(stL l x.v l.length).length≤400:=by have:=stL_len l x.v l.length;have:=HR.out.arcs;omega
    clear hq hql hsep hx hv hk hk2 hcell hrow hlv hCv hrw e0
    have e1:decide ((0:Int)<(k:Int)+1)=true:=decide_eq_true (by omega)
    go_wp2_with (first|(go_at_call 166;refine(que_len gq _ R fr (k+1) n0 _ HQ.out).mono ?_;rintro e_ w_ ⟨rfl,hw_⟩;subst hw_)|(go_at_call 167;refine HTK.out.mono ?_;rintro e_ w11 ⟨rfl,hq2,hk11⟩;have HM:Aside0 (Sm n0 a0_1 A2 c2 l A3 c3 F (some ad4) c4 g3 gd gb gq w st (i+1) w11):=⟨⟨HSM.out.D.kept hk11 (fun e=>(HSEP.out gq (.inl rfl)).2.1 e.symm),HSM.out.B.kept hk11 (fun e=>(HSEP.out gq (.inl rfl)).2.2.1 e.symm),hk11.blk HSM.out.b3 (fun e=>(HSEP.out gq (.inl rfl)).2.2.2 e.symm),⟨_,R,_,by rw[HK2.out];exact hq2,by rw[HK2.out];exact HQL.out,HSEP.out⟩,hk11.toBelow HSM.out.below HSM.out.below.size (fun b hb=>by have:=HSEP.out gq (.inl rfl);omega)⟩⟩;clear hq2 hk11;have hc4:w11.cell? ⟨g3,4,none⟩=some (.slice (some ad4) n0 c4):=(blk_cell HM.out.b3 4).trans rfl;have hcr:=pw_cell_below HM.out.below HRC.out)|fail)
    clear hc4 hcr HRC
    obtain⟨LN,hLN⟩: ∃ n_,n_=(stL l x.v l.length).length:=⟨_,rfl⟩
    rw[← hLN] at hlen4 ⊢
    have HLN:=Aside0.mk hLN
    clear hLN
    obtain⟨w2,hw2⟩: ∃ x_:World,x_=w11:=⟨_,rfl⟩
    subst hw2
    go_loopw [54] (fun v54 w'=> ∃ (j:Nat) (stj:List (Fd S38)),j≤LN∧v54= .int .i64 j∧Aside0 (Li l F n0 s t x (proc (toP l) (esP l F) st x) stj i j)∧Aside0 (Sm n0 a0_1 A2 c2 l A3 c3 F (some ad4) c4 g3 gd gb gq w stj (i+1) w')) (fun v54 _=>LN - (intOf v54).toNat)
    case atStart=>exact⟨0,st,Nat.zero_le _,rfl,⟨HLP.out.inner HX.out⟩,HM⟩
    case round=>
     clear HM
     obtain⟨j,stj,hj,rfl,HLI,HSJ⟩:=hrel
     by_cases hltj:j<LN
     ·have c55:decide ((j:Int)<(LN:Int))=true:=decide_eq_true (by omega)
      have pj:(0:Int)≤(j:Int):=by omega
      have qj:(j:Int)<(LN:Int):=by omega
      obtain⟨adj,eadj,hs0,hs1⟩:=at_T38 (Kd.C_below HCV.out HSJ.out.below) (j:Int) pj (by rw[← HLN.out];exact qj)
      cases eadj
      simp only[Int.toNat_natCast] at hs0 hs1
      obtain⟨e,hee⟩: ∃ e_,e_=rd_T38 (stL l x.v l.length) (j:Int):=⟨_,rfl⟩
      rw[← hee] at hs0 hs1
      have hej:(stL l x.v l.length)[j]? =some e:=by
       rw[hee]
       unfold rd_T38
       rw[Int.toNat_natCast,List.getD_eq_getElem?_getD,List.getElem?_eq_getElem (by rw[← HLN.out];exact hltj)]
       rfl
      have hso:StepOf l e:=stL_of (List.mem_of_getElem? hej)
      have HEJ:=Aside0.mk hej
      have HSO:=Aside0.mk hso
      clear hee hej hso
      obtain⟨u,hu⟩: ∃ u_:Nat,stTo l e=(u_:Int):=⟨(stTo l e).toNat,by have:=stTo_in HR.out HSO.out;omega⟩
      obtain⟨rm,hrm⟩: ∃ d_,d_=stRoom l F e:=⟨_,rfl⟩
      obtain⟨y,hy⟩: ∃ y_,y_=(dOf n0 stj).getD u 0:=⟨_,rfl⟩
      have hun:u<n0:=by have:=stTo_in HR.out HSO.out;omega
      have hup:toP l e=u:=by unfold toP;rw[hu,Int.toNat_natCast]
      have HTO:=Aside0.mk (to_f HR.out HSO.out (n0:Int) a0_1)
      have HRM:=Aside0.mk (room_f HR.out HSO.out (n0:Int) a0_1)
      rw[hu] at HTO
      rw[← hrm] at HRM
      have hrm0:0≤rm:=by rw[hrm];exact(stRoom_in HR.out HSO.out).1
      have HY:=Aside0.mk hy
      have HUP:=Aside0.mk hup
      have HRMV:=Aside0.mk hrm
      have hneg:=dOf_neg stj 0 hun
      rw[← hy] at hneg
      clear hu hrm hy hup
      have pu:(0:Int)≤(u:Int):=by omega
      have qu:(u:Int)<(n0:Int):=by omega
      by_cases hmem:u∈nodes stj
      ·have hy0: ¬ y<0:=fun h=>hneg.1 h hmem
       have ey:decide (0≤y)=true:=decide_eq_true (by omega)
       have HNX:Aside0 (Li l F n0 s t x (proc (toP l) (esP l F) st x) stj i (j+1)):=⟨HLI.out.skip HEJ.out (.inr (by rw[HUP.out];exact hmem))⟩
       clear hneg hmem hy0
       go_wp2_with (first|((with_reducible refine gate_dst (N:=13) rfl ?_);refine box_event ?hg (N:=13) ?hd (cs:= #[.int .i64 0, .bool false]) (t:=38) ?hr ?_;(case hd=>rfl);(case hg=>rfl);(case hr=>first|(go_simp;done)|(go_simp;rfl));intro g8 hg w6 hbox hb;have GE8:Aside0 (wr.heap.size≤g8):=⟨Nat.le_of_eq hg.symm⟩;have B8:=Aside0.mk hbox;have HBL:=Aside0.mk hb;clear hbox hg hb;have hcz0:w6.cell? ⟨g8,0,none⟩=some (.int .i64 0):=(blk_cell B8.out 0).trans rfl;have hcz1:w6.cell? ⟨g8,1,none⟩=some (.bool false):=(blk_cell B8.out 1).trans rfl;have hfz0:=blk_frozen B8.out 0;have hfz1:=blk_frozen B8.out 1)|((with_reducible refine gate_store (t:=38) (p:=13) rfl ?_);refine store_event (t:=38) (p:=13) (v:= ?vo) (w1:=((w6.setCell ⟨g8,0,none⟩ (.int .i64 e.f0)).setCell ⟨g8,1,none⟩ (.bool e.f1))) ?hg ?ho ?hn ?hr ?_;(case ho=>rfl);(case hg=>rfl);(case hn=>rfl);(case hr=>first|(go_simp;done)|(go_simp;rfl));intro w8 hw;have m0_:Aside0 (w8.heap[g8]? =some (.cells #[.int .i64 e.f0, .bool e.f1] 38 (0,0))):=⟨by rw[hw];refine blk_put (cs:= #[.int .i64 e.f0, .bool false]) ?_ 1 _ rfl;refine blk_put (cs:= #[.int .i64 0, .bool false]) ?_ 0 _ rfl;exact B8.out⟩;have m1_:Aside0 (Below wr.heap.size wr w8):=⟨by rw[hw];exact below_set (below_set HBL.out GE8.out) GE8.out⟩;clear hw B8 HBL hcz0 hcz1 hfz0 hfz1 hs0 hs1;have B8:=m0_;clear m0_;have m0_:=Aside0.mk (HSJ.out.step m1_.out);have HG8:Aside0 (g8≠gd∧g8≠gb∧g8≠g3):=⟨by have h1:=HSJ.out.D.lt;have h2:=HSJ.out.B.lt;have h3:=blk_lt HSJ.out.b3;have h4:=GE8.out;omega⟩;clear HSJ m1_;have HSJ:=m0_;clear m0_;have c0:w8.cell? ⟨g3,0,none⟩=some (.int .i64 n0):=(blk_cell HSJ.out.b3 0).trans rfl;have c1:w8.cell? ⟨g3,1,none⟩=some (.bool a0_1):=(blk_cell HSJ.out.b3 1).trans rfl;have c2_:w8.cell? ⟨g3,2,none⟩=some (.slice A2 l.length c2):=(blk_cell HSJ.out.b3 2).trans rfl;have c3_:w8.cell? ⟨g3,3,none⟩=some (.slice A3 F.length c3):=(blk_cell HSJ.out.b3 3).trans rfl;have s0:w8.cell? ⟨g8,0,none⟩=some (.int .i64 e.f0):=(blk_cell B8.out 0).trans rfl;have s1:w8.cell? ⟨g8,1,none⟩=some (.bool e.f1):=(blk_cell B8.out 1).trans rfl;have hcu:w8.cell? ⟨gd,u,none⟩=some (.int .i64 y):=(by rw[HY.out];exact HSJ.out.D.cell (by rw[dOf_len];exact hun)))|(go_at_call 105;refine(static_Flowing_To.calls (n0:Int) a0_1 A2 c2 l A3 c3 F e.f0 e.f1 (u:Int) _ (Kd.C_below H2.out HSJ.out.below) HC2.out (Kd.C_below H3.out HSJ.out.below) HC3.out HTO.out).mono ?_;rintro e_ w9 ⟨rfl,hb9⟩;have m0_:=Aside0.mk (HSJ.out.step hb9);have m1_:=Aside0.mk (blk_below B8.out hb9);clear HSJ B8 hb9 c0 c1 c2_ c3_ s0 s1 hcu;have HSJ:=m0_;have B8:=m1_;clear m0_ m1_;have c0:w9.cell? ⟨g3,0,none⟩=some (.int .i64 n0):=(blk_cell HSJ.out.b3 0).trans rfl;have c1:w9.cell? ⟨g3,1,none⟩=some (.bool a0_1):=(blk_cell HSJ.out.b3 1).trans rfl;have c2_:w9.cell? ⟨g3,2,none⟩=some (.slice A2 l.length c2):=(blk_cell HSJ.out.b3 2).trans rfl;have c3_:w9.cell? ⟨g3,3,none⟩=some (.slice A3 F.length c3):=(blk_cell HSJ.out.b3 3).trans rfl;have s0:w9.cell? ⟨g8,0,none⟩=some (.int .i64 e.f0):=(blk_cell B8.out 0).trans rfl;have s1:w9.cell? ⟨g8,1,none⟩=some (.bool e.f1):=(blk_cell B8.out 1).trans rfl;have hcu:w9.cell? ⟨gd,u,none⟩=some (.int .i64 y):=(by rw[HY.out];exact HSJ.out.D.cell (by rw[dOf_len];exact hun)))|fail)
       go_roundw
       case rel=>exact⟨j+1,stj,by omega,by go_num,HNX,HSJ⟩
       case measure=>simp[intOf]<;>omega
      ·have hy0:y<0:=hneg.2 hmem
       have ey:decide (0≤y)=false:=decide_eq_false (by omega)
       have HMEM:Aside0 (toP l e ∉ nodes stj):=⟨by rw[HUP.out];exact hmem⟩
       clear hneg hmem hy0
       by_cases hr0:rm=0
       ·have er:(rm == 0)=true:=beq_iff_eq.2 hr0
        have HNX:Aside0 (Li l F n0 s t x (proc (toP l) (esP l F) st x) stj i (j+1)):=⟨HLI.out.skip HEJ.out (.inl (by rw[← HRMV.out];omega))⟩
        clear hr0
        go_wp2_with (first|((with_reducible refine gate_dst (N:=13) rfl ?_);refine box_event ?hg (N:=13) ?hd (cs:= #[.int .i64 0, .bool false]) (t:=38) ?hr ?_;(case hd=>rfl);(case hg=>rfl);(case hr=>first|(go_simp;done)|(go_simp;rfl));intro g8 hg w6 hbox hb;have GE8:Aside0 (wr.heap.size≤g8):=⟨Nat.le_of_eq hg.symm⟩;have B8:=Aside0.mk hbox;have HBL:=Aside0.mk hb;clear hbox hg hb;have hcz0:w6.cell? ⟨g8,0,none⟩=some (.int .i64 0):=(blk_cell B8.out 0).trans rfl;have hcz1:w6.cell? ⟨g8,1,none⟩=some (.bool false):=(blk_cell B8.out 1).trans rfl;have hfz0:=blk_frozen B8.out 0;have hfz1:=blk_frozen B8.out 1)|((with_reducible refine gate_store (t:=38) (p:=13) rfl ?_);refine store_event (t:=38) (p:=13) (v:= ?vo) (w1:=((w6.setCell ⟨g8,0,none⟩ (.int .i64 e.f0)).setCell ⟨g8,1,none⟩ (.bool e.f1))) ?hg ?ho ?hn ?hr ?_;(case ho=>rfl);(case hg=>rfl);(case hn=>rfl);(case hr=>first|(go_simp;done)|(go_simp;rfl));intro w8 hw;have m0_:Aside0 (w8.heap[g8]? =some (.cells #[.int .i64 e.f0, .bool e.f1] 38 (0,0))):=⟨by rw[hw];refine blk_put (cs:= #[.int .i64 e.f0, .bool false]) ?_ 1 _ rfl;refine blk_put (cs:= #[.int .i64 0, .bool false]) ?_ 0 _ rfl;exact B8.out⟩;have m1_:Aside0 (Below wr.heap.size wr w8):=⟨by rw[hw];exact below_set (below_set HBL.out GE8.out) GE8.out⟩;clear hw B8 HBL hcz0 hcz1 hfz0 hfz1 hs0 hs1;have B8:=m0_;clear m0_;have m0_:=Aside0.mk (HSJ.out.step m1_.out);have HG8:Aside0 (g8≠gd∧g8≠gb∧g8≠g3):=⟨by have h1:=HSJ.out.D.lt;have h2:=HSJ.out.B.lt;have h3:=blk_lt HSJ.out.b3;have h4:=GE8.out;omega⟩;clear HSJ m1_;have HSJ:=m0_;clear m0_;have c0:w8.cell? ⟨g3,0,none⟩=some (.int .i64 n0):=(blk_cell HSJ.out.b3 0).trans rfl;have c1:w8.cell? ⟨g3,1,none⟩=some (.bool a0_1):=(blk_cell HSJ.out.b3 1).trans rfl;have c2_:w8.cell? ⟨g3,2,none⟩=some (.slice A2 l.length c2):=(blk_cell HSJ.out.b3 2).trans rfl;have c3_:w8.cell? ⟨g3,3,none⟩=some (.slice A3 F.length c3):=(blk_cell HSJ.out.b3 3).trans rfl;have s0:w8.cell? ⟨g8,0,none⟩=some (.int .i64 e.f0):=(blk_cell B8.out 0).trans rfl;have s1:w8.cell? ⟨g8,1,none⟩=some (.bool e.f1):=(blk_cell B8.out 1).trans rfl;have hcu:w8.cell? ⟨gd,u,none⟩=some (.int .i64 y):=(by rw[HY.out];exact HSJ.out.D.cell (by rw[dOf_len];exact hun)))|(go_at_call 105;refine(static_Flowing_To.calls (n0:Int) a0_1 A2 c2 l A3 c3 F e.f0 e.f1 (u:Int) _ (Kd.C_below H2.out HSJ.out.below) HC2.out (Kd.C_below H3.out HSJ.out.below) HC3.out HTO.out).mono ?_;rintro e_ w9 ⟨rfl,hb9⟩;have m0_:=Aside0.mk (HSJ.out.step hb9);have m1_:=Aside0.mk (blk_below B8.out hb9);clear HSJ B8 hb9 c0 c1 c2_ c3_ s0 s1 hcu;have HSJ:=m0_;have B8:=m1_;clear m0_ m1_;have c0:w9.cell? ⟨g3,0,none⟩=some (.int .i64 n0):=(blk_cell HSJ.out.b3 0).trans rfl;have c1:w9.cell? ⟨g3,1,none⟩=some (.bool a0_1):=(blk_cell HSJ.out.b3 1).trans rfl;have c2_:w9.cell? ⟨g3,2,none⟩=some (.slice A2 l.length c2):=(blk_cell HSJ.out.b3 2).trans rfl;have c3_:w9.cell? ⟨g3,3,none⟩=some (.slice A3 F.length c3):=(blk_cell HSJ.out.b3 3).trans rfl;have s0:w9.cell? ⟨g8,0,none⟩=some (.int .i64 e.f0):=(blk_cell B8.out 0).trans rfl;have s1:w9.cell? ⟨g8,1,none⟩=some (.bool e.f1):=(blk_cell B8.out 1).trans rfl;have hcu:w9.cell? ⟨gd,u,none⟩=some (.int .i64 y):=(by rw[HY.out];exact HSJ.out.D.cell (by rw[dOf_len];exact hun)))|(go_at_call 104;refine(static_Flowing_Room.calls (n0:Int) a0_1 A2 c2 l A3 c3 F e.f0 e.f1 rm _ (Kd.C_below H2.out HSJ.out.below) HC2.out (Kd.C_below H3.out HSJ.out.below) HC3.out HRM.out).mono ?_;rintro e_ w10 ⟨rfl,hb9⟩;have m0_:=Aside0.mk (HSJ.out.step hb9);have m1_:=Aside0.mk (blk_below B8.out hb9);clear HSJ B8 hb9 c0 c1 c2_ c3_ s0 s1 hcu;have HSJ:=m0_;have B8:=m1_;clear m0_ m1_;have c0:w10.cell? ⟨g3,0,none⟩=some (.int .i64 n0):=(blk_cell HSJ.out.b3 0).trans rfl;have c1:w10.cell? ⟨g3,1,none⟩=some (.bool a0_1):=(blk_cell HSJ.out.b3 1).trans rfl;have c2_:w10.cell? ⟨g3,2,none⟩=some (.slice A2 l.length c2):=(blk_cell HSJ.out.b3 2).trans rfl;have c3_:w10.cell? ⟨g3,3,none⟩=some (.slice A3 F.length c3):=(blk_cell HSJ.out.b3 3).trans rfl;have s0:w10.cell? ⟨g8,0,none⟩=some (.int .i64 e.f0):=(blk_cell B8.out 0).trans rfl;have s1:w10.cell? ⟨g8,1,none⟩=some (.bool e.f1):=(blk_cell B8.out 1).trans rfl;have hcu:w10.cell? ⟨gd,u,none⟩=some (.int .i64 y):=(by rw[HY.out];exact HSJ.out.D.cell (by rw[dOf_len];exact hun)))|fail)
        go_roundw
        case rel=>exact⟨j+1,stj,by omega,by go_num,HNX,HSJ⟩
        case measure=>simp[intOf]<;>omega
       ·have er:(rm == 0)=false:=beq_eq_false_iff_ne.2 hr0
        have HRP:Aside0 (0<stRoom l F e):=⟨by rw[← HRMV.out];omega⟩
        clear hr0
        go_wp2_with (first|((with_reducible refine gate_dst (N:=13) rfl ?_);refine box_event ?hg (N:=13) ?hd (cs:= #[.int .i64 0, .bool false]) (t:=38) ?hr ?_;(case hd=>rfl);(case hg=>rfl);(case hr=>first|(go_simp;done)|(go_simp;rfl));intro g8 hg w6 hbox hb;have GE8:Aside0 (wr.heap.size≤g8):=⟨Nat.le_of_eq hg.symm⟩;have B8:=Aside0.mk hbox;have HBL:=Aside0.mk hb;clear hbox hg hb;have hcz0:w6.cell? ⟨g8,0,none⟩=some (.int .i64 0):=(blk_cell B8.out 0).trans rfl;have hcz1:w6.cell? ⟨g8,1,none⟩=some (.bool false):=(blk_cell B8.out 1).trans rfl;have hfz0:=blk_frozen B8.out 0;have hfz1:=blk_frozen B8.out 1)|((with_reducible refine gate_store (t:=38) (p:=13) rfl ?_);refine store_event (t:=38) (p:=13) (v:= ?vo) (w1:=((w6.setCell ⟨g8,0,none⟩ (.int .i64 e.f0)).setCell ⟨g8,1,none⟩ (.bool e.f1))) ?hg ?ho ?hn ?hr ?_;(case ho=>rfl);(case hg=>rfl);(case hn=>rfl);(case hr=>first|(go_simp;done)|(go_simp;rfl));intro w8 hw;have m0_:Aside0 (w8.heap[g8]? =some (.cells #[.int .i64 e.f0, .bool e.f1] 38 (0,0))):=⟨by rw[hw];refine blk_put (cs:= #[.int .i64 e.f0, .bool false]) ?_ 1 _ rfl;refine blk_put (cs:= #[.int .i64 0, .bool false]) ?_ 0 _ rfl;exact B8.out⟩;have m1_:Aside0 (Below wr.heap.size wr w8):=⟨by rw[hw];exact below_set (below_set HBL.out GE8.out) GE8.out⟩;clear hw B8 HBL hcz0 hcz1 hfz0 hfz1 hs0 hs1;have B8:=m0_;clear m0_;have m0_:=Aside0.mk (HSJ.out.step m1_.out);have HG8:Aside0 (g8≠gd∧g8≠gb∧g8≠g3):=⟨by have h1:=HSJ.out.D.lt;have h2:=HSJ.out.B.lt;have h3:=blk_lt HSJ.out.b3;have h4:=GE8.out;omega⟩;clear HSJ m1_;have HSJ:=m0_;clear m0_;have c0:w8.cell? ⟨g3,0,none⟩=some (.int .i64 n0):=(blk_cell HSJ.out.b3 0).trans rfl;have c1:w8.cell? ⟨g3,1,none⟩=some (.bool a0_1):=(blk_cell HSJ.out.b3 1).trans rfl;have c2_:w8.cell? ⟨g3,2,none⟩=some (.slice A2 l.length c2):=(blk_cell HSJ.out.b3 2).trans rfl;have c3_:w8.cell? ⟨g3,3,none⟩=some (.slice A3 F.length c3):=(blk_cell HSJ.out.b3 3).trans rfl;have s0:w8.cell? ⟨g8,0,none⟩=some (.int .i64 e.f0):=(blk_cell B8.out 0).trans rfl;have s1:w8.cell? ⟨g8,1,none⟩=some (.bool e.f1):=(blk_cell B8.out 1).trans rfl;have hcu:w8.cell? ⟨gd,u,none⟩=some (.int .i64 y):=(by rw[HY.out];exact HSJ.out.D.cell (by rw[dOf_len];exact hun)))|(go_at_call 105;refine(static_Flowing_To.calls (n0:Int) a0_1 A2 c2 l A3 c3 F e.f0 e.f1 (u:Int) _ (Kd.C_below H2.out HSJ.out.below) HC2.out (Kd.C_below H3.out HSJ.out.below) HC3.out HTO.out).mono ?_;rintro e_ w9 ⟨rfl,hb9⟩;have m0_:=Aside0.mk (HSJ.out.step hb9);have m1_:=Aside0.mk (blk_below B8.out hb9);clear HSJ B8 hb9 c0 c1 c2_ c3_ s0 s1 hcu;have HSJ:=m0_;have B8:=m1_;clear m0_ m1_;have c0:w9.cell? ⟨g3,0,none⟩=some (.int .i64 n0):=(blk_cell HSJ.out.b3 0).trans rfl;have c1:w9.cell? ⟨g3,1,none⟩=some (.bool a0_1):=(blk_cell HSJ.out.b3 1).trans rfl;have c2_:w9.cell? ⟨g3,2,none⟩=some (.slice A2 l.length c2):=(blk_cell HSJ.out.b3 2).trans rfl;have c3_:w9.cell? ⟨g3,3,none⟩=some (.slice A3 F.length c3):=(blk_cell HSJ.out.b3 3).trans rfl;have s0:w9.cell? ⟨g8,0,none⟩=some (.int .i64 e.f0):=(blk_cell B8.out 0).trans rfl;have s1:w9.cell? ⟨g8,1,none⟩=some (.bool e.f1):=(blk_cell B8.out 1).trans rfl;have hcu:w9.cell? ⟨gd,u,none⟩=some (.int .i64 y):=(by rw[HY.out];exact HSJ.out.D.cell (by rw[dOf_len];exact hun)))|(go_at_call 104;refine(static_Flowing_Room.calls (n0:Int) a0_1 A2 c2 l A3 c3 F e.f0 e.f1 rm _ (Kd.C_below H2.out HSJ.out.below) HC2.out (Kd.C_below H3.out HSJ.out.below) HC3.out HRM.out).mono ?_;rintro e_ w10 ⟨rfl,hb9⟩;have m0_:=Aside0.mk (HSJ.out.step hb9);have m1_:=Aside0.mk (blk_below B8.out hb9);clear HSJ B8 hb9 c0 c1 c2_ c3_ s0 s1 hcu;have HSJ:=m0_;have B8:=m1_;clear m0_ m1_;have c0:w10.cell? ⟨g3,0,none⟩=some (.int .i64 n0):=(blk_cell HSJ.out.b3 0).trans rfl;have c1:w10.cell? ⟨g3,1,none⟩=some (.bool a0_1):=(blk_cell HSJ.out.b3 1).trans rfl;have c2_:w10.cell? ⟨g3,2,none⟩=some (.slice A2 l.length c2):=(blk_cell HSJ.out.b3 2).trans rfl;have c3_:w10.cell? ⟨g3,3,none⟩=some (.slice A3 F.length c3):=(blk_cell HSJ.out.b3 3).trans rfl;have s0:w10.cell? ⟨g8,0,none⟩=some (.int .i64 e.f0):=(blk_cell B8.out 0).trans rfl;have s1:w10.cell? ⟨g8,1,none⟩=some (.bool e.f1):=(blk_cell B8.out 1).trans rfl;have hcu:w10.cell? ⟨gd,u,none⟩=some (.int .i64 y):=(by rw[HY.out];exact HSJ.out.D.cell (by rw[dOf_len];exact hun)))|fail)
        obtain⟨lv,hlv⟩: ∃ n_,n_=x.lv:=⟨_,rfl⟩
        have hxm:x∈stj:=List.mem_of_getElem? HLI.out.at_
        have hlv50:x.lv<50:=by have:=lv_lt HLI.out.fds hxm;have:=fds_len HLI.out.fds (esP_to HR.out) hs;omega
        have hcv:w10.cell? ⟨gd,x.v,none⟩=some (.int .i64 (lv:Int)):=by
         rw[hlv, ← dOf_mem HLI.out.fds.nodup hxm 0 hxn]
         exact HSJ.out.D.cell (by rw[dOf_len];exact hxn)
        rw[← hlv] at hlv50
        have HLV:=Aside0.mk hlv
        clear hlv hxm c0 c1 c2_ c3_
        obtain⟨hb0,hb1⟩:=HSJ.out.B.cell z38 (j:=u) (by rw[bOf_len];exact hun)
        generalize ((bOf z38 n0 stj).getD u z38)=zz at hb0 hb1
        have fd:=HSJ.out.D.free u
        have fb0:=HSJ.out.B.free (u * 2)
        have fb1:=HSJ.out.B.free (u * 2+1)
        obtain⟨n1,n2,n3⟩:=HG8.out
        obtain⟨n4,n5,n6,n7,n8⟩:=GD.out
        have pl0:(0:Int)≤(lv:Int):=by omega
        have pl1:(lv:Int)<50:=by omega
        go_region
        have m0_:Aside0 (IsI (seekW w10 gd gb u ((lv:Int)+1) e) gd (dOf n0 (stj ++ [⟨toP l e,e,x.lv+1⟩]))):=⟨by
         rw[dOf_snoc n0 HMEM.out,HUP.out, ← HLV.out]
         exact seek_D HSJ.out.D n6 u _ e⟩
        have m1_:Aside0 (IsS (seekW w10 gd gb u ((lv:Int)+1) e) gb (bOf z38 n0 (stj ++ [⟨toP l e,e,x.lv+1⟩]))):=⟨by
         rw[bOf_snoc z38 n0 HMEM.out,HUP.out]
         exact seek_B HSJ.out.B n6 u _ e⟩
        have m2_:Aside0 ((seekW w10 gd gb u ((lv:Int)+1) e).heap[g3]? =some (.cells #[.int .i64 n0, .bool a0_1, .slice A2 l.length c2, .slice A3 F.length c3, .slice (some ad4) n0 c4] 118 (0,0))):=⟨(seek_far w10 u _ e n4 n5).trans HSJ.out.b3⟩
        have m3_:Aside0 (Below w.heap.size w (seekW w10 gd gb u ((lv:Int)+1) e)):=⟨below_drew (below_set (below_set (below_set HSJ.out.below n7) n8) n8)⟩
        obtain⟨Aj,Rj,frj,hqj,hqlj,hsj⟩:=HSJ.out.que
        have hqj2:=hqj.step (w1:=seekW w10 gd gb u ((lv:Int)+1) e) (fun k _ hk=>seek_far w10 u _ e (hsj k hk).2.1 (hsj k hk).2.2.1)
        have HQJ:=Aside0.mk hqj2
        have HQLJ:=Aside0.mk hqlj
        have HSEPJ:=Aside0.mk hsj
        have hif:i<stj.length:=(List.getElem?_eq_some_iff.1 HLI.out.at_).1
        have hadd:=HLI.out.add HEJ.out HRP.out HMEM.out
        have hcount:stj.length+1≤n0:=by have:=fds_len hadd.1 (esP_to HR.out) hs;simpa using this
        clear hqj hqj2 hqlj hsj HSJ B8 hb0 hb1 fd fb0 fb1 hcv hcu s0 s1 n1 n2 n3 hadd HG8
        have HD:=m0_
        have HS:=m1_
        have B3:=m2_
        have HB:=m3_
        clear m0_ m1_ m2_ m3_
        generalize hw12:(((w10.setCell ⟨gd,u,none⟩ (.int .i64 ((lv:Int)+1))).setCell ⟨gb,u * 2,none⟩ (.int .i64 e.f0)).setCell ⟨gb,u * 2+1,none⟩ (.bool e.f1)).drew=w12
        rw[show seekW w10 gd gb u ((lv:Int)+1) e=w12 from hw12] at HD HS B3 HB HQJ
        clear hw12
        by_cases htu:t=(u:Int)
        ·have et:((u:Int) == t)=true:=by rw[htu];simp
         have HSN:=Aside0.mk (HLI.out.found HLP.out HX.out (by omega) HEJ.out HRP.out HMEM.out (by rw[HUP.out];exact htu))
         clear htu
         go_wp2_with fail
         rw[Exit.noGoto_ret]
         go_ret2
         exact⟨gd,gb,_,rfl,n7,n8,n6,HD.out,HS.out,HB.out,HSN.out⟩
        ·have et:((u:Int) == t)=false:=beq_eq_false_iff_ne.2 (Ne.symm htu)
         have HNX:=Aside0.mk (HLI.out.put HEJ.out HRP.out HMEM.out (by rw[HUP.out];exact htu))
         clear htu
         go_wp2_with (first|(go_at_call 165;refine(que_put gq Aj Rj frj (stj.length - (i+1)) n0 (u:Int) _ HQJ.out (by omega)).mono ?_;rintro e_ w13 ⟨rfl,A',R',fr',hq',hql',hk',hs'⟩;have HM:Aside0 (Sm n0 a0_1 A2 c2 l A3 c3 F (some ad4) c4 g3 gd gb gq w (stj ++ [⟨toP l e,e,x.lv+1⟩]) (i+1) w13):=⟨⟨HD.out.kept hk' (fun h=>(HSEPJ.out _ h).2.1 rfl),HS.out.kept hk' (fun h=>(HSEPJ.out _ h).2.2.1 rfl),hk'.blk B3.out (fun h=>(HSEPJ.out _ h).2.2.2 rfl),⟨A',R',fr',by rw[List.length_append,List.length_singleton,show stj.length+1 - (i+1)=stj.length - (i+1)+1 by omega];exact hq',by rw[List.length_append,List.length_singleton,show stj.length+1 - (i+1)=stj.length - (i+1)+1 by omega,hql',HQLJ.out,qOf_snoc (by omega)];show _=qOf stj (i+1) ++ [((toP l e:Nat):Int)];rw[HUP.out],fun k hk=>(hs' k hk).elim (HSEPJ.out k) (fun h=>by have h1:=HB.out.size;have h2:=HD.out.lt;have h3:=HS.out.lt;have h4:=blk_lt B3.out;omega)⟩,hk'.toBelow HB.out HB.out.size (fun b hb=>(HSEPJ.out b hb).1)⟩⟩;clear HD HS B3 HB hq' hql' hk' hs')|fail)
         go_roundw
         case rel=>exact⟨j+1,_,by omega,by go_num,HNX,HM⟩
         case measure=>simp[intOf]<;>omega
     ·have ej:j=LN:=by omega
      subst ej
      have c55:decide ((j:Int)<(j:Int))=false:=decide_eq_false (by omega)
      go_wp2_with fail
      go_roundw
      case rel=>exact⟨_,stj,i+1,rfl,Li.next HR.out hs HLP.out HX.out (by have h_:=HLI.out;rw[HLN.out] at h_;exact h_),HSJ.out⟩
      case measure=>exact least_lt ⟨stj,i+1,rfl,Li.next HR.out hs HLP.out HX.out (by have h_:=HLI.out;rw[HLN.out] at h_;exact h_),HSJ.out⟩ (by rw[← HLE.out,HMI.out];omega)
   ·have hi:i=st.length:=by omega
    rw[show st.length - i=0 by omega] at hq
    have HQ:=Aside0.mk hq
    clear hq hql hsep
    go_wp2_with (first|(go_at_call 166;refine(que_len gq A R fr 0 n0 _ HQ.out).mono ?_;rintro e_ w_ ⟨rfl,hw_⟩;subst hw_)|fail)
    rw[Exit.noGoto_ret]
    go_ret2
    have hg:=GD.out
    exact⟨gd,gb,st,rfl,hg.2.2.2.1,hg.2.2.2.2,hg.2.2.1,HSM.out.D,HSM.out.B,HSM.out.below,HLP.out.seen hi⟩
end Go.Proofs.Ytkcpanpdipmmmaa.H
namespace Go.Proofs.Ytkcpanpdipmmmaa.H
open Go.RowKit Go.Proofs.YtkcpanpdipmmmaaW.PrintWords Go.Proofs.YtkcpanpdipmmmaaW.PrintLast Go.Proofs.YtkcpanpdipmmmaaW.PrintMore Go.Proofs.Ytkcpanpdipmmmaa.P
attribute [local irreducible] wpQuiet
theorem fromS_f {l:List S74} {F:List Int} {n:Nat} (hr:Right l F n) {s:S38} (hs:StepOf l s) (a:Int) (b:Bool):static_Flowing_From.f a b l F s.f0 s.f1=some (stFrom l s):=by
 obtain⟨i,h1,h2⟩:=hs
 unfold static_Flowing_From.f stFrom eFrom eTo
 rw[h2]
 cases s.f1<;>simp[h1]
set_option maxHeartbeats 2000000 in
set_option maxRecDepth 100000 in
theorem far_calls (n0:Nat) (a0_1:Bool) (A2:Option Addr) (c2:Nat) (l:List S74) (A3:Option Addr) (c3:Nat) (F:List Int) (A4:Option Addr) (c4:Nat) (s:Nat) (w:World)
  (hR:Right l F n0) (hs:s<n0) (hc2:l.length≤c2) (hc3:F.length≤c3) (h2:Kd.C k74 w A2 l.length l) (h3:Kd.C (Kd.int .i64) w A3 F.length F) (h4:(Kd.slice 38 k38).C w A4 n0 (rowsAt l n0 n0)):
  Calls Try.prog 108 #[.agg #[.int .i64 n0, .bool a0_1, .slice A2 l.length c2, .slice A3 F.length c3, .slice A4 n0 c4], .int .i64 (s:Int)] w fun e w'=> ∃ gd:Nat,e= .returned (.slice (some ⟨gd,0,none⟩) n0 n0)∧w.heap.size≤gd∧IsI w' gd (dOf n0 (bfP l F n0 s))∧Below w.heap.size w w':=by
 have hu118:=Try.underlying118
 have HR:=Aside0.mk hR
 have HC2:=Aside0.mk hc2
 have HC3:=Aside0.mk hc3
 have H2:=Aside0.mk h2
 have H3:=Aside0.mk h3
 have H4:=Aside0.mk h4
 have HB:=Aside0.mk (Below.refl w.heap.size w)
 clear hR h2 h3 h4 hc2 hc3
 go_enter Try.func108,Try.ntmps108
 go_wp2_with (first|((with_reducible refine gate_dst (N:=2) rfl ?_);refine box_event ?hg (N:=2) ?hd (cs:= #[.int .i64 n0, .bool a0_1, .slice A2 l.length c2, .slice A3 F.length c3, .slice A4 n0 c4]) (t:=118) ?hr ?_;(case hd=>rfl);(case hg=>rfl);(case hr=>first|(go_simp;done)|(go_simp;rfl));intro g3 hg w5 hbox hb;have n0_:=Aside0.mk (below_step HB.out hb);have B3:=Aside0.mk hbox;clear HB;have HB:=n0_;have GE3:Aside0 (w.heap.size≤g3):=⟨Nat.le_of_eq hg.symm⟩;clear n0_ hb hbox hg;have c0:w5.cell? ⟨g3,0,none⟩=some (.int .i64 n0):=(blk_cell B3.out 0).trans rfl;have c1:w5.cell? ⟨g3,1,none⟩=some (.bool a0_1):=(blk_cell B3.out 1).trans rfl;have c2_:w5.cell? ⟨g3,2,none⟩=some (.slice A2 l.length c2):=(blk_cell B3.out 2).trans rfl;have c3_:w5.cell? ⟨g3,3,none⟩=some (.slice A3 F.length c3):=(blk_cell B3.out 3).trans rfl;have c4_:w5.cell? ⟨g3,4,none⟩=some (.slice A4 n0 c4):=(blk_cell B3.out 4).trans rfl)|(go_at_call 145;refine(seek_calls n0 a0_1 A2 c2 l A3 c3 F A4 c4 s (-1) _ HR.out hs (by omega) HC2.out HC3.out (Kd.C_below H2.out HB.out) (Kd.C_below H3.out HB.out) (Kd.C_below H4.out HB.out)).mono ?_;rintro e_ w6 ⟨gd,gb,st,rfl,hg1,hg2,hg3,hd,hs_,hb,hsn⟩;have HD:=Aside0.mk hd;have HSN:=Aside0.mk hsn;have HG:=Aside0.mk hg1;have m0_:=Aside0.mk (below_step HB.out hb);have HS5:=HB.out.size;clear HB B3 hd hs_ hb hsn hg1 hg2 hg3 c0 c1 c2_ c3_ c4_;have HB:=m0_;clear m0_)|fail)
 go_ret
 have e:_=bfP l F n0 s:=HSN.out.hit.resolve_right (by rintro⟨tn,h1,_⟩;omega)
 refine⟨gd,rfl,by have:=HG.out;omega,?_,HB.out⟩
 have h_:=HD.out
 rw[e] at h_
 exact h_
theorem back_end {fr:S38→Nat} {st:List (Fd S38)} {s k:Nat} :backL fr st s k s=[]:=by
 cases k with
 |zero=>rfl
 |succ k=>rw[backL,if_pos rfl]
end Go.Proofs.Ytkcpanpdipmmmaa.H
namespace Go.Proofs.Ytkcpanpdipmmmaa.H
open Go.RowKit Go.Proofs.YtkcpanpdipmmmaaW.PrintWords Go.Proofs.YtkcpanpdipmmmaaW.PrintLast Go.Proofs.YtkcpanpdipmmmaaW.PrintMore Go.Proofs.Ytkcpanpdipmmmaa.P Go.Proofs.Ytkcpanpdipmmmaa.Q
attribute [local irreducible] wpQuiet
def wayRes (l:List S74) (L:List S38) (n s:Nat) (t:Int):List S38 × Bool:=if t∈nX (bfL l L n s) then(wayL (frP l) (bfL l L n s) s t.toNat,true) else([],false)
theorem nX_nodup {st:List (Fd S38)} (h:(nodes st).Nodup):(nX st).Nodup:=by
 unfold nX
 refine List.pairwise_map.2 (h.imp fun {a b} hab e=>hab ?_)
 omega
theorem hasI_at {st:List (Fd S38)} (h:(nodes st).Nodup) {i:Nat} {x:Fd S38} (hx:st[i]? =some x):hasI (nX st) (x.v:Int) 0=(i:Int):=by
 have hil:=(List.getElem?_eq_some_iff.1 hx).1
 have hm:(x.v:Int)∈nX st:=mem_nX.2 (List.mem_map_of_mem (List.mem_of_getElem? hx))
 unfold hasI
 rw[List.drop_zero,if_pos hm,Nat.zero_add]
 have h1:=List.idxOf_lt_length_of_mem hm
 have h2:(nX st)[(nX st).idxOf (x.v:Int)]=(x.v:Int):=List.getElem_idxOf h1
 have hi:i<(nX st).length:=by rw[nX_len];exact hil
 have h3:(nX st)[i]'hi=(x.v:Int):=by
  have h4:=nX_get hx
  rw[rd_nat,List.getD_eq_getElem?_getD,List.getElem?_eq_getElem hi] at h4
  exact h4
 have hp:=List.pairwise_iff_getElem.1 (nX_nodup h)
 rcases Nat.lt_trichotomy ((nX st).idxOf (x.v:Int)) i with g|g|g
 ·exact absurd (h2.trans h3.symm) (hp _ _ h1 hi g)
 ·rw[g]
 ·exact absurd (h3.trans h2.symm) (hp _ _ hi h1 g)
def wayOk (n:Int) (l:List S74) (L:List S38) (s:Int):Bool:=
 decide (0≤s) && decide (s<n) && decide (n≤50) && decide (l.length≤200) && decide (L.length≤400) && (l.all fun a=>decide (0≤a.f0) && decide (a.f0<n) && decide (0≤a.f1) && decide (a.f1<n)) && (L.all fun e=>decide (0≤e.f0) && decide (e.f0<(l.length:Int)))
theorem wayOk_iff {n:Nat} {l:List S74} {L:List S38} {s:Nat} :wayOk n l L s=true↔StepsOk l n L∧s<n∧n≤50:=by
 unfold wayOk
 simp only[Bool.and_eq_true,decide_eq_true_eq,List.all_eq_true]
 constructor
 ·rintro⟨⟨⟨⟨⟨⟨_,h1⟩,h2⟩,h3⟩,h4⟩,h5⟩,h6⟩
  refine⟨⟨?_,h3,?_,h4⟩,by omega,by omega⟩
  ·intro i hi
   have hg:=h5 _ (List.getElem_mem hi)
   have e1:rd_T74 l i=l[i]:=by rw[rdArc_nat,List.getD_eq_getElem?_getD,List.getElem?_eq_getElem hi];rfl
   unfold eFrom eTo
   rw[e1]
   omega
  ·intro e he
   have:=h6 e he
   exact⟨e.f0.toNat,by omega,by omega⟩
 ·rintro⟨h,h1,h2⟩
  refine⟨⟨⟨⟨⟨⟨by omega,by omega⟩,by omega⟩,h.arcs⟩,h.len⟩,?_⟩,?_⟩
  ·intro a ha
   obtain⟨i,hi,rfl⟩:=List.mem_iff_getElem.1 ha
   have hg:=h.ends i hi
   have e1:rd_T74 l i=l[i]:=by rw[rdArc_nat,List.getD_eq_getElem?_getD,List.getElem?_eq_getElem hi];rfl
   unfold eFrom eTo at hg
   rw[e1] at hg
   omega
  ·intro e he
   obtain⟨i,h3,h4⟩:=h.of e he
   omega
theorem y_cells {w:World} {base g cap:Nat} {ok:Nat→Prop} {B:List S38} (h:Kd.R k38 38 w base ok (.slice (some ⟨g,0,none⟩) B.length cap) B) {i:Nat} {x:S38} (hx:B[i]? =some x):
  w.cell? ⟨g,i * 2,none⟩=some (.int .i64 x.f0)∧w.cell? ⟨g,i * 2+1,none⟩=some (.bool x.f1):=by
 have hi:=(List.getElem?_eq_some_iff.1 hx).1
 obtain⟨c,_,hM,hc,_⟩:=Kd.R_elem h z38 (i:Int) (by omega) (by omega)
 have hgd:B.getD (i:Int).toNat z38=x:=by rw[Int.toNat_natCast,List.getD_eq_getElem?_getD,hx];rfl
 rw[hgd] at hM
 obtain rfl:=k38_openM hM
 exact⟨hc 0 _ rfl,hc 1 _ rfl⟩
theorem way_nat (l:List S74) (L:List S38) (n s t:Nat):wayRes l L n s (t:Int)=if t∈nodes (bfL l L n s) then(wayL (frP l) (bfL l L n s) s t,true) else([],false):=by
 unfold wayRes
 by_cases h:t∈nodes (bfL l L n s)
 ·rw[if_pos (mem_nX.2 h),if_pos h,Int.toNat_natCast]
 ·rw[if_neg (fun g=>h (mem_nX.1 g)),if_neg h]
set_option maxHeartbeats 2000000 in
set_option maxRecDepth 100000 in
theorem way_ref (n0:Nat) (a0_1:Bool) (A2:Option Addr) (c2:Nat) (l:List S74) (s:Nat) (t:Int) (A3:Option Addr) (c3:Nat) (L:List S38) (w:World)
  (hL:StepsOk l n0 L) (hs:s<n0) (hn50:n0≤50) (h2:Kd.C k74 w A2 l.length l) (hc2:l.length≤c2) (h3:Kd.C k38 w A3 L.length L) (hc3:L.length≤c3):
  Calls Try.prog 109 #[.agg #[.int .i64 n0, .bool a0_1, .slice A2 l.length c2], .int .i64 (s:Int), .int .i64 t, .slice A3 L.length c3] w fun e w'=> ∃ v:Value,e= .returned (.tuple #[v, .bool (wayRes l L n0 s t).2])∧Kd.R k38 38 w' w.heap.size (fun _=>True) v (wayRes l L n0 s t).1∧Below w.heap.size w w':=by
 have hu24:=Try.underlying24
 have hu161:=Try.underlying161
 have hu38:=Try.underlying38
 obtain⟨st,hst⟩: ∃ st_,st_=bfL l L n0 s:=⟨_,rfl⟩
 have hF:Fds (frP l) (toP l) (esL l L) s st:=by rw[hst];exact(bfsN_upto (esL_to hL) hs).fds
 have hstl:st.length≤n0:=fds_len hF (esL_to hL) hs
 have HF:=Aside0.mk hF
 have HST:=Aside0.mk hst
 obtain⟨K1,hK1⟩:=sought_ev hL hn50 a0_1 hs
 obtain⟨K2,hK2⟩:=has_ev (nX (bfL l L n0 s)) (bY (bfL l L n0 s)) t (by rw[nX_len, ← hst];omega)
 have hs1:=hK1 K1 (Nat.le_refl _)
 have hh1:=hK2 K2 (Nat.le_refl _)
 rw[← hst] at hs1 hh1
 obtain⟨K,hk⟩: ∃ k_,k_=K1:=⟨_,rfl⟩
 obtain⟨KH,hkh⟩: ∃ k_,k_=K2:=⟨_,rfl⟩
 rw[← hk] at hs1
 rw[← hkh] at hh1
 have HSO:=Aside0.mk hs1
 have HH:=Aside0.mk hh1
 have XL:Aside0 (0<st.length):=⟨by obtain⟨x,r,h1,_⟩:=hF.head;rw[h1];simp⟩
 clear hK1 hK2 hk hkh hs1 hh1 hF hst K1 K2
 have HL:=Aside0.mk hL
 have HC2:=Aside0.mk hc2
 have HC3:=Aside0.mk hc3
 have H2:=Aside0.mk h2
 have H3:=Aside0.mk h3
 have HB:=Aside0.mk (Below.refl w.heap.size w)
 clear hL h2 h3 hc2 hc3
 go_enter Try.func109,Try.ntmps109
 go_upto_region 2 with (first|((with_reducible refine gate_dst (N:=4) rfl ?_);refine box_event ?hg (N:=4) ?hd (cs:= #[.int .i64 n0, .bool a0_1, .slice A2 l.length c2]) (t:=24) ?hr ?_;(case hd=>rfl);(case hg=>rfl);(case hr=>first|(go_simp;done)|(go_simp;rfl));intro g3 hg w5 hbox hb;have n0_:=Aside0.mk (below_step HB.out hb);have B3:=Aside0.mk hbox;clear HB;have HB:=n0_;have GE3:Aside0 (w.heap.size≤g3):=⟨Nat.le_of_eq hg.symm⟩;clear n0_ hb hbox hg;have c0:w5.cell? ⟨g3,0,none⟩=some (.int .i64 n0):=(blk_cell B3.out 0).trans rfl;have c1:w5.cell? ⟨g3,1,none⟩=some (.bool a0_1):=(blk_cell B3.out 1).trans rfl;have c2_:w5.cell? ⟨g3,2,none⟩=some (.slice A2 l.length c2):=(blk_cell B3.out 2).trans rfl)|(go_at_call 146;refine(ebbtideref08_sought.calls K (n0:Int) a0_1 A2 c2 l (s:Int) A3 c3 L _ _ _ (Kd.C_below H2.out HB.out) HC2.out (Kd.C_below H3.out HB.out) HC3.out HSO.out).mono ?_;rintro e_ w6 ⟨vx,vy,rfl,hx,hy,hb⟩;obtain⟨gx,cx,rfl,hgx,hgx2,cellsx,hcx⟩:=Kd.R_form hx (by have:=XL.out;rw[nX_len];omega);obtain⟨gy,cy,rfl,hgy,hgy2,cellsy,hcy⟩:=Kd.R_form hy (by have:=XL.out;rw[bY_len];omega);clear hcx hcy cellsx cellsy;have HX:=Aside0.mk hx;have HY:=Aside0.mk hy;have HGX:Aside0 (g3<gx∧g3<gy∧gx<w6.heap.size∧gy<w6.heap.size):=⟨by have:=blk_lt B3.out;omega⟩;have m0_:=Aside0.mk (below_step HB.out hb);have m1_:=Aside0.mk (blk_below B3.out hb);clear HB B3 hx hy hb hgx hgx2 hgy hgy2 c0 c1 c2_;have HB:=m0_;have B3:=m1_;clear m0_ m1_)|fail)
 have HW:Aside0 ((w6.alloc (Obj.cells #[.slice (some ⟨gx,0,none⟩) (nX st).length cx, .slice (some ⟨gy,0,none⟩) (bY st).length cy] 161)).heap[w6.heap.size]? =some (.cells #[.slice (some ⟨gx,0,none⟩) (nX st).length cx, .slice (some ⟨gy,0,none⟩) (bY st).length cy] 161 (0,0))):=⟨heap_alloc_new _ _⟩
 have h_:=HB.out.size
 have m0_:=Aside0.mk (below_alloc HB.out (Obj.cells #[.slice (some ⟨gx,0,none⟩) (nX st).length cx, .slice (some ⟨gy,0,none⟩) (bY st).length cy] 161))
 have m1_:=Aside0.mk (blk_below B3.out (below_alloc (Below.refl _ _) (Obj.cells #[.slice (some ⟨gx,0,none⟩) (nX st).length cx, .slice (some ⟨gy,0,none⟩) (bY st).length cy] 161)))
 have m2_:=Aside0.mk (Kd.R_below HX.out (below_alloc (Below.refl _ _) (Obj.cells #[.slice (some ⟨gx,0,none⟩) (nX st).length cx, .slice (some ⟨gy,0,none⟩) (bY st).length cy] 161)))
 have m3_:=Aside0.mk (Kd.R_below HY.out (below_alloc (Below.refl _ _) (Obj.cells #[.slice (some ⟨gx,0,none⟩) (nX st).length cx, .slice (some ⟨gy,0,none⟩) (bY st).length cy] 161)))
 clear HB B3 HX HY h_
 have HB:=m0_
 have B3:=m1_
 have HX:=m2_
 have HY:=m3_
 clear m0_ m1_ m2_ m3_
 generalize w6.alloc _=w7 at *
 generalize w6.heap.size=g10 at *
 obtain⟨t0,t1⟩:w7.cell? ⟨g10,0,none⟩=some (.slice (some ⟨gx,0,none⟩) (nX st).length cx)∧w7.cell? ⟨g10,1,none⟩=some (.slice (some ⟨gy,0,none⟩) (bY st).length cy):=⟨(blk_cell HW.out 0).trans rfl,(blk_cell HW.out 1).trans rfl⟩
 by_cases hmem:t∈nX st
 ·obtain⟨tn,rfl⟩: ∃ tn:Nat,t=tn:=by
   obtain⟨v,_,hv⟩:=List.mem_map.1 hmem
   exact⟨v,hv.symm⟩
  have hmem:=mem_nX.1 hmem
  have e0:decide (hasI (nX st) (tn:Int) 0<0)=false:=decide_eq_false (fun h=>hasI_neg.1 h hmem)
  obtain⟨x0,hx0,hxt⟩:=List.mem_map.1 hmem
  have HX0:=Aside0.mk hx0
  have HXT:=Aside0.mk hxt
  have HWR:Aside0 (wayRes l L n0 s (tn:Int)=(wayL (frP l) st s tn,true)):=⟨by rw[way_nat, ← HST.out,if_pos hmem]⟩
  have HBK0:Aside0 ((backL (frP l) st s x0.lv x0.v).reverse=wayL (frP l) st s tn):=⟨by
   unfold wayL
   rw[← HXT.out]
   have hlv:=lv_lt HF.out HX0.out
   have h_:=backL_more HF.out esL_fr [] x0.lv HX0.out (Nat.le_refl _) (k':=st.length) (Nat.le_of_lt hlv)
   rw[List.append_nil] at h_
   rw[h_]⟩
  clear hx0 hxt hmem
  go_wp2_with (first|(go_at_call 147;refine(ebbtideref08_found_has.calls KH _ cx (nX st) _ cy (bY st) _ _ _ (Kd.R_reads' HX.out).2.2 (Kd.R_reads' HX.out).2.1 (Kd.R_reads' HY.out).2.2 (Kd.R_reads' HY.out).2.1 HH.out).mono ?_;rintro e_ w8 ⟨rfl,hb⟩;have m0_:=Aside0.mk (below_step HB.out hb);have m1_:=Aside0.mk (blk_below B3.out hb);have m2_:=Aside0.mk (blk_below HW.out hb);have m3_:=Aside0.mk (Kd.R_below HX.out hb);have m4_:=Aside0.mk (Kd.R_below HY.out hb);clear HB B3 HW HX HY hb;have HB:=m0_;have B3:=m1_;have HW:=m2_;have HX:=m3_;have HY:=m4_;clear m0_ m1_ m2_ m3_ m4_;clear t0 t1)|fail)
  have h8:=HB.out.size
  go_loopw [11,12] (fun v11 v12 w'=> ∃ (x:Fd S38) (O:List S38),v12= .int .i64 x.v∧x∈st∧Aside0 (O ++ backL (frP l) st s x.lv x.v=backL (frP l) st s x0.lv x0.v)∧O.length+x.lv≤50∧Aside0 (Kd.R k38 38 w' w8.heap.size (fun _=>True) v11 O)∧Aside0 (Below w8.heap.size w8 w')) (fun _ v12 _=>((dOf n0 st).getD (intOf v12).toNat 0).toNat)
  case atStart=>exact⟨x0,[],by rw[HXT.out],HX0.out,⟨rfl⟩,by have:=lv_lt HF.out HX0.out;show 0+_≤50;omega,⟨Kd.R_nil _ _ _ _ _⟩,⟨Below.refl _ _⟩⟩
  case round=>
   obtain⟨x,O,rfl,hx,HBK,hlen,HO,HC⟩:=hrel
   have hxn:x.v<n0:=fds_lt HF.out (esL_to HL.out) hs _ (List.mem_map_of_mem hx)
   by_cases hxs:x.v=s
   ·have e1:((x.v:Int) != (s:Int))=false:=by rw[hxs];simp
    have hO:O=backL (frP l) st s x0.lv x0.v:=by
     have h_:=HBK.out
     rw[hxs,back_end,List.append_nil] at h_
     exact h_
    have HOE:=Aside0.mk hO
    have hOl:O.length≤50:=by omega
    clear hxs hO hlen
    obtain⟨A11,c11,e11⟩:=Kd.R_slice HO.out
    subst e11
    have hwr:IntKind.i64.wrap ((O.length:Int) - 1)=(O.length:Int) - 1:=IntWalk.i64_in _ (by omega)
    generalize wr=wE at *
    go_wp2_with fail
    have m0_:=Aside0.mk (below_step HB.out HC.out)
    clear HB HC hwr e1
    have HB:=m0_
    clear m0_
    go_loopw [14,15] (fun v14 v15 w'=> ∃ (q:Int) (U:List S38),v15= .int .i64 q∧(-1≤q∧q<(O.length:Int))∧Aside0 (U=(O.drop (q+1).toNat).reverse)∧Aside0 (Kd.R k38 38 w' wE.heap.size (fun _=>True) v14 U)∧Aside0 (Below wE.heap.size wE w')) (fun _ v15 _=>(intOf v15+1).toNat)
    case atStart=>exact⟨(O.length:Int) - 1,[],rfl,⟨by omega,by omega⟩,⟨by rw[show ((O.length:Int) - 1+1).toNat=O.length by omega,List.drop_length];rfl⟩,⟨Kd.R_nil _ _ _ _ _⟩,⟨Below.refl _ _⟩⟩
    case round=>
     obtain⟨q,U,rfl,⟨hq1,hq2⟩,HU,HV,HC⟩:=hrel
     by_cases hq:0≤q
     ·have e1:decide (0≤q)=true:=decide_eq_true hq
      obtain⟨g,cap,ev,_⟩:=Kd.R_form HO.out (by omega)
      injection ev with ev1 _ ev2
      subst ev1
      subst ev2
      have hqi:O[q.toNat]? =some O[q.toNat]:=List.getElem?_eq_getElem (by omega)
      generalize O[q.toNat]=e at hqi
      obtain⟨b0,b1⟩:=y_cells (Kd.R_below HO.out HC.out) hqi
      have hwr:IntKind.i64.wrap (q - 1)=q - 1:=IntWalk.i64_in _ (by omega)
      have HU2:Aside0 (U ++ [e]=(O.drop (q - 1+1).toNat).reverse):=⟨by
       have hd:O.drop q.toNat=e::O.drop (q.toNat+1):=by
        obtain⟨h1,h2⟩:=List.getElem?_eq_some_iff.1 hqi
        rw[List.drop_eq_getElem_cons h1,h2]
       rw[show (q - 1+1).toNat=q.toNat by omega,hd,List.reverse_cons,HU.out,show (q+1).toNat=q.toNat+1 by omega]⟩
      have hUl:U.length≤50:=by rw[HU.out,List.length_reverse,List.length_drop];omega
      clear hqi HU
      go_wp2_with (first|((with_reducible refine gate_builtin (b:= .append) (xs:= #[.tmp 49, .tmp 54]) rfl ?_);at_builtin;refine Kd.R_append k38 (w0:=wE) wE.heap.size rfl (.tmp 49) (.tmp 54) 34 38 (.agg #[(.int .i64 0),(.bool false)]) 16 rfl Try.underlying34 info38 rfl (by decide) (by omega) u14 U e [.int .i64 e.f0, .bool e.f1] (fun _=>True) (fun _=>False) rfl rfl ?aP (fun _ hk=>hk.elim) ?aF ?aO ?aB ?aS ?aL ?_;(case aP=>exact k38_mkM _ _ _ e);(case aF=>exact(fun k hk=>trivial));(case aO=>exact HV.out);(case aB=>exact HC.out);(case aS=>exact HC.out.size);(case aL=>omega);intro v1 w9 ho hb hg hat;have m0_:=Aside0.mk ho;have m1_:=Aside0.mk hb;clear HV HC ho hb hg hat b0 b1;have HV:=m0_;have HC:=m1_;clear m0_ m1_)|fail)
      go_roundw
      case rel=>exact⟨q - 1,U ++ [e],rfl,⟨by omega,by omega⟩,HU2,HV,HC⟩
      case measure=>simp[intOf]<;>omega
     ·have e1:decide (0≤q)=false:=decide_eq_false hq
      go_wp2_with fail
      go_ret2
      rw[HWR.out]
      refine⟨_,rfl,?_,below_step HB.out HC.out⟩
      have h_:=HV.out
      rw[HU.out,show (q+1).toNat=0 by omega,List.drop_zero,HOE.out,HBK0.out] at h_
      exact Kd.R_lower h_ HB.out.size
   ·have e1:((x.v:Int) != (s:Int))=true:=by rw[bne_iff_ne];omega
    rcases HF.out.mem_lv hx with ⟨h1,_⟩|⟨_,hto,z,hz,hze,hlv⟩
    ·exact absurd h1 hxs
    obtain⟨i,hi⟩:=List.getElem?_of_mem hx
    have hbk:backL (frP l) st s x.lv x.v=x.by_::backL (frP l) st s z.lv z.v:=by
     rw[hlv,backL,if_neg hxs,fnd_of HF.out.nodup hx]
     show x.by_::_=_
     rw[esL_fr _ _ hze]
    have hbi:(bY st)[i]? =some x.by_:=by unfold bY;rw[List.getElem?_map,hi];rfl
    obtain⟨b0,b1⟩:=y_cells (Kd.R_below HY.out HC.out) hbi
    have hfm:=rfrom_ok HL.out (List.mem_filter.1 hze).1 (n0:Int) a0_1
    have hfr:stFrom l x.by_=(z.v:Int):=of_decide_eq_true (List.mem_filter.1 hze).2
    rw[hfr] at hfm
    obtain⟨K3,hK3⟩:=has_ev (nX st) (bY st) (x.v:Int) (by rw[nX_len];omega)
    have hh3:=hK3 K3 (Nat.le_refl _)
    rw[hasI_at HF.out.nodup hi] at hh3
    obtain⟨k3,hk3⟩: ∃ k_,k_=K3:=⟨_,rfl⟩
    rw[← hk3] at hh3
    have HH3:=Aside0.mk hh3
    obtain⟨e,hee⟩: ∃ e_,e_=x.by_:=⟨_,rfl⟩
    rw[← hee] at b0 b1 hfm hbk
    have HFM:=Aside0.mk hfm
    have HBK2:Aside0 ((O ++ [e]) ++ backL (frP l) st s z.lv z.v=backL (frP l) st s x0.lv x0.v):=⟨by rw[← HBK.out,hbk,List.append_assoc];rfl⟩
    have HZ:=Aside0.mk hz
    have hl2:(O ++ [e]).length+z.lv≤50:=by rw[List.length_append,List.length_singleton];omega
    have HL2:=Aside0.mk hl2
    have hOl:O.length≤50:=by omega
    have hmz:((dOf n0 st).getD z.v 0).toNat<((dOf n0 st).getD x.v 0).toNat:=by
     rw[dOf_mem HF.out.nodup hz 0 (fds_lt HF.out (esL_to HL.out) hs _ (List.mem_map_of_mem hz)),dOf_mem HF.out.nodup hx 0 hxn]
     omega
    have HMZ:=Aside0.mk hmz
    have px:(0:Int)≤(i:Int):=by omega
    have qx:(i:Int)<((bY st).length:Int):=by rw[bY_len];have:=(List.getElem?_eq_some_iff.1 hi).1;omega
    obtain⟨t0,t1⟩:wr.cell? ⟨g10,0,none⟩=some (.slice (some ⟨gx,0,none⟩) (nX st).length cx)∧wr.cell? ⟨g10,1,none⟩=some (.slice (some ⟨gy,0,none⟩) (bY st).length cy):=⟨pw_cell_below HC.out ((blk_cell HW.out 0).trans rfl),pw_cell_below HC.out ((blk_cell HW.out 1).trans rfl)⟩
    have H5:=Aside0.mk (Kd.C_below (Kd.R_reads' HX.out).2.2 HC.out)
    have H6:=Aside0.mk (Kd.C_below (Kd.R_reads' HY.out).2.2 HC.out)
    clear hz hze hlv hbk hfr hfm hee HBK hlen hl2 hmz hto hxs hi hbi hh3 hk3 hK3 K3
    go_upto_region 7 with fail
    go_cut [13] (fun v13 wx=> ∃ g13:Nat,v13= .pointer (some ⟨g13,0,none⟩)∧wr.heap.size≤g13∧Aside0 (wx.heap[g13]? =some (.cells #[.int .i64 e.f0, .bool e.f1] 38 (0,0)))∧Aside0 (Below wr.heap.size wr wx))
    case first=>
     go_region_held3 (fun w'=>w'.cell? ⟨g10,0,none⟩=some (.slice (some ⟨gx,0,none⟩) (nX st).length cx)∧w'.cell? ⟨g10,1,none⟩=some (.slice (some ⟨gy,0,none⟩) (bY st).length cy)∧w'.cell? ⟨gy,i * 2,none⟩=some (.int .i64 e.f0)∧w'.cell? ⟨gy,i * 2+1,none⟩=some (.bool e.f1))
      (first|((try dsimp only);(refine⟨?_,?_,?_,?_⟩)<;>first|(exact pw_cell_below (below_drew (Below.refl _ _)) (by assumption))|(exact pw_cell_below (below_alloc (Below.refl _ _) _) (by assumption))|(exact pw_cell_below hbr (by assumption))|(exact pw_cell_below (below_alloc (below_step (below_drew (Below.refl wr.heap.size wr)) hbr) _) (by assumption))|(exact pw_cell_below (below_alloc (Below.refl wr.heap.size wr) _) (by assumption))|(exact pw_cell_below (below_step (below_drew (below_alloc (Below.refl wr.heap.size wr) _)) hbr) (by assumption))|(exact pw_cell_below (below_set (below_set (below_step (below_drew (below_alloc (Below.refl wr.heap.size wr) _)) hbr) (Nat.le_refl _)) (Nat.le_refl _)) (by assumption)))|go_keep)
      (first|(go_at_call 147;refine(ebbtideref08_found_has.calls k3 _ cx (nX st) _ cy (bY st) (x.v:Int) _ _ ?hX (Kd.R_reads' HX.out).2.1 ?hY (Kd.R_reads' HY.out).2.1 HH3.out).mono ?_;(case hX=>first|exact Kd.C_below H5.out (below_drew (Below.refl _ _))|exact Kd.C_below H5.out (below_drew (below_alloc (Below.refl _ _) _)));(case hY=>first|exact Kd.C_below H6.out (below_drew (Below.refl _ _))|exact Kd.C_below H6.out (below_drew (below_alloc (Below.refl _ _) _)));rintro e_ w9 ⟨rfl,hbr⟩;try (have hk9:w9.heap[wr.heap.size]? =some (.cells #[.int .i64 0, .bool false] 38 (0,0)):=(hbr.block _ (by simp)).trans (heap_alloc_new wr (.cells #[.int .i64 0, .bool false] 38));have kc0:=blk_cell hk9 0;have kc1:=blk_cell hk9 1;have kz0:=blk_frozen hk9 0;have kz1:=blk_frozen hk9 1)))
     ·go_wp2_with fail
      go_meet
      exact⟨w9.heap.size,rfl,by have:=hbr.size;simpa using this,⟨heap_alloc_new w9 _⟩,⟨below_alloc (below_step (below_drew (Below.refl wr.heap.size wr)) hbr) _⟩⟩
     ·go_wp2_with fail
      go_meet
      exact⟨wr.heap.size,rfl,Nat.le_refl _,⟨(blk_set (blk_set hk9 0 (.int .i64 e.f0)) 1 (.bool e.f1)).trans rfl⟩,⟨below_set (below_set (below_step (below_drew (below_alloc (Below.refl wr.heap.size wr) _)) hbr) (Nat.le_refl _)) (Nat.le_refl _)⟩⟩
    case rest=>
     obtain⟨g13,rfl,hg13,HG13,HBC⟩:=hcut
     have m0_:=Aside0.mk (below_step HC.out HBC.out)
     have m1_:=Aside0.mk (Kd.R_below (Kd.R_mono (ok':=fun k=>k≠g13) (Kd.R_bound HO.out) (fun k hk=>by have:=hk.2.2.1;omega)) HBC.out)
     clear HC HO HBC t0 t1 b0 b1 H5 H6
     have HC:=m0_
     have HO:=m1_
     clear m0_ m1_
     have b0:wc.cell? ⟨g13,0,none⟩=some (.int .i64 e.f0):=(blk_cell HG13.out 0).trans rfl
     have b1:wc.cell? ⟨g13,1,none⟩=some (.bool e.f1):=(blk_cell HG13.out 1).trans rfl
     go_wp2_with (first|((with_reducible refine gate_builtin (b:= .append) (xs:= #[.tmp 35, .tmp 37]) rfl ?_);at_builtin;refine Kd.R_append k38 (w0:=w8) w8.heap.size rfl (.tmp 35) (.tmp 37) 34 38 (.agg #[(.int .i64 0),(.bool false)]) 16 rfl Try.underlying34 info38 rfl (by decide) (by omega) u11 O e [.int .i64 e.f0, .bool e.f1] (fun k=>k≠g13) (fun _=>False) rfl rfl ?aP (fun _ hk=>hk.elim) ?aF ?aO ?aB ?aS ?aL ?_;(case aP=>exact k38_mkM _ _ _ e);(case aF=>exact(fun k hk=>by have:=blk_lt HG13.out;omega));(case aO=>exact HO.out);(case aB=>exact HC.out);(case aS=>exact HC.out.size);(case aL=>omega);intro v1 w9 ho hb hg hat;have m0_:=Aside0.mk ho;have m1_:=Aside0.mk hb;have m2_:=Aside0.mk ((hg.block g13 (blk_lt HG13.out) (fun h=>HO.out.1 g13 h.symm rfl)).trans HG13.out);clear HO HC HG13 ho hb hg hat b0 b1;have HO:=m0_;have HC:=m1_;have HG13:=m2_;clear m0_ m1_ m2_;have b0:w9.cell? ⟨g13,0,none⟩=some (.int .i64 e.f0):=(blk_cell HG13.out 0).trans rfl;have b1:w9.cell? ⟨g13,1,none⟩=some (.bool e.f1):=(blk_cell HG13.out 1).trans rfl;have c0:w9.cell? ⟨g3,0,none⟩=some (.int .i64 n0):=pw_cell_below HC.out ((blk_cell B3.out 0).trans rfl);have c1:w9.cell? ⟨g3,1,none⟩=some (.bool a0_1):=pw_cell_below HC.out ((blk_cell B3.out 1).trans rfl);have c2_:w9.cell? ⟨g3,2,none⟩=some (.slice A2 l.length c2):=pw_cell_below HC.out ((blk_cell B3.out 2).trans rfl))|(go_at_call 44;refine(ebbtideref07_From.calls (n0:Int) a0_1 A2 c2 l e.f0 e.f1 (z.v:Int) _ (Kd.C_below (Kd.C_below H2.out HB.out) HC.out) HC2.out HFM.out).mono ?_;rintro e_ w10 ⟨rfl,hb⟩;have m0_:=Aside0.mk (below_step HC.out hb);have m1_:=Aside0.mk (Kd.R_below HO.out hb);clear HC HO b0 b1 c0 c1 c2_ hb;have HC:=m0_;have HO:=m1_;clear m0_ m1_)|fail)
     go_roundw
     case rel=>exact⟨z,O ++ [e],rfl,HZ.out,HBK2,HL2.out,⟨Kd.R_mono HO.out (fun _ _=>trivial)⟩,HC⟩
     case measure=>have h_:=HMZ.out;simpa [intOf] using h_
 ·have e0:decide (hasI (nX st) t 0<0)=true:=decide_eq_true (by
   unfold hasI
   rw[List.drop_zero,if_neg hmem]
   omega)
  have HNO:Aside0 (wayRes l L n0 s t=([],false)):=⟨by unfold wayRes;rw[← HST.out,if_neg hmem]⟩
  clear hmem
  go_wp2_with (first|(go_at_call 147;refine(ebbtideref08_found_has.calls KH _ cx (nX st) _ cy (bY st) _ _ _ (Kd.R_reads' HX.out).2.2 (Kd.R_reads' HX.out).2.1 (Kd.R_reads' HY.out).2.2 (Kd.R_reads' HY.out).2.1 HH.out).mono ?_;rintro e_ w8 ⟨rfl,hb⟩;have m0_:=Aside0.mk (below_step HB.out hb);have m1_:=Aside0.mk (blk_below B3.out hb);have m2_:=Aside0.mk (blk_below HW.out hb);have m3_:=Aside0.mk (Kd.R_below HX.out hb);have m4_:=Aside0.mk (Kd.R_below HY.out hb);clear HB B3 HW HX HY hb;have HB:=m0_;have B3:=m1_;have HW:=m2_;have HX:=m3_;have HY:=m4_;clear m0_ m1_ m2_ m3_ m4_;clear t0 t1)|fail)
  go_ret2
  rw[HNO.out]
  exact⟨_,rfl,Kd.R_nil _ _ _ _ _,HB.out⟩
def wayF (n:Int) (l:List S74) (s t:Int) (L:List S38):Option (List S38 × Bool):=if wayOk n l L s=true then some (wayRes l L n.toNat s.toNat t) else none
theorem ebbtideref08_Way_calls (a0_0:Int) (a0_1:Bool) (A0_2:Option Addr) (c0_2:Nat) (l0_2:List S74) (a1 a2:Int) (A3:Option Addr) (c3:Nat) (l3:List S38) (r1:List S38) (r2:Bool) (w:World) (hr0_2:Kd.C k74 w A0_2 l0_2.length l0_2) (hc0_2:l0_2.length≤c0_2) (hr3:Kd.C k38 w A3 l3.length l3) (hc3:l3.length≤c3) (h:wayF a0_0 l0_2 a1 a2 l3=some (r1,r2)):
  Calls Try.prog 109 #[.agg #[.int .i64 a0_0, .bool a0_1, .slice A0_2 l0_2.length c0_2], .int .i64 a1, .int .i64 a2, .slice A3 l3.length c3] w fun e w'=> ∃ v0_:Value,e= .returned (.tuple #[v0_, .bool r2])∧Kd.R k38 38 w' w.heap.size (fun _=>True) v0_ r1∧Below w.heap.size w w':=by
 unfold wayF at h
 split at h
 ·rename_i hok
  obtain⟨n0,rfl⟩: ∃ n0:Nat,a0_0=n0:=⟨a0_0.toNat,by unfold wayOk at hok;simp only[Bool.and_eq_true,decide_eq_true_eq] at hok;omega⟩
  obtain⟨s0,rfl⟩: ∃ s0:Nat,a1=s0:=⟨a1.toNat,by unfold wayOk at hok;simp only[Bool.and_eq_true,decide_eq_true_eq] at hok;omega⟩
  obtain⟨h1,h2,h3⟩:=wayOk_iff.1 hok
  injection h with h
  rw[Int.toNat_natCast,Int.toNat_natCast] at h
  have h_:=way_ref n0 a0_1 A0_2 c0_2 l0_2 s0 a2 A3 c3 l3 w h1 h2 h3 hr0_2 hc0_2 hr3 hc3
  rw[h] at h_
  exact h_
 ·cases h
theorem wayF_eq {n0:Nat} {l:List S74} {L:List S38} {s0:Nat} (h1:StepsOk l n0 L) (h2:s0<n0) (h3:n0≤50) (t:Int):wayF n0 l s0 t L=some (wayRes l L n0 s0 t):=by
 unfold wayF
 rw[if_pos (wayOk_iff.2 ⟨h1,h2,h3⟩),Int.toNat_natCast,Int.toNat_natCast]
end Go.Proofs.Ytkcpanpdipmmmaa.H
namespace Go.Proofs.Ytkcpanpdipmmmaa.P
open Go.RowKit Go.Proofs.YtkcpanpdipmmmaaW.PrintWords Go.Proofs.YtkcpanpdipmmmaaW.PrintLast Go.Proofs.YtkcpanpdipmmmaaW.PrintMore
attribute [local go_sem] max2_int min2_int max_two min_two max_three min_three max_four min_four
def ebbtideref08_Way.f (a0_0:Int) (a0_1:Bool) (l0_2:List (S74)) (a1:Int) (a2:Int) (l3:List (S38)):Option ((List (S38)) × Bool):=H.wayF a0_0 l0_2 a1 a2 l3
theorem ebbtideref08_Way.calls (a0_0:Int) (a0_1:Bool) (A0_2:Option Addr) (c0_2:Nat) (l0_2:List (S74)) (a1:Int) (a2:Int) (A3:Option Addr) (c3:Nat) (l3:List (S38)) (r1:List (S38)) (r2:Bool) (w:World) (hr0_2:Kd.C k74 w A0_2 l0_2.length l0_2) (hc0_2:l0_2.length≤c0_2) (hr3:Kd.C k38 w A3 l3.length l3) (hc3:l3.length≤c3) (h:ebbtideref08_Way.f a0_0 a0_1 l0_2 a1 a2 l3=some (r1,r2)):
  Calls Try.prog 109 #[.agg #[.int .i64 a0_0, .bool a0_1, .slice A0_2 l0_2.length c0_2], .int .i64 a1, .int .i64 a2, .slice A3 l3.length c3] w fun e w'=> ∃ v0_:Value,e= .returned (.tuple #[v0_, .bool r2])∧Kd.R k38 38 w' w.heap.size (fun _=>True) v0_ r1∧Below w.heap.size w w':=H.ebbtideref08_Way_calls a0_0 a0_1 A0_2 c0_2 l0_2 a1 a2 A3 c3 l3 r1 r2 w hr0_2 hc0_2 hr3 hc3 h
end Go.Proofs.Ytkcpanpdipmmmaa.P
namespace Go.Proofs.Ytkcpanpdipmmmaa.P
open Go.RowKit Go.Proofs.YtkcpanpdipmmmaaW.PrintWords Go.Proofs.YtkcpanpdipmmmaaW.PrintLast Go.Proofs.YtkcpanpdipmmmaaW.PrintMore
attribute [local go_sem] max2_int min2_int max_two min_two max_three min_three max_four min_four
def ebbtideref08_Levels.l0:Nat→Int→List (S38)→List Int→Int→Int→Bool→List (S74)→Option (List Int × Int)
 |0,_,_,_,_,_,_,_=>none
 |k+1,x2,x9,x10,x11,x475000,x475001,x475002=>if x11<x475000 then((ebbtideref08_Way.f x475000 x475001 x475002 x2 x11 x9).bind fun bt480=>(if bt480.2=true then(if x10.length<17592186044416 then(ebbtideref08_Levels.l0 k x2 x9 (x10 ++ [(bt480.1.length:Int)]) (wrap64 (x11+1)) x475000 x475001 x475002) else(none)) else(if x10.length<17592186044416 then(ebbtideref08_Levels.l0 k x2 x9 (x10 ++ [(-1)]) (wrap64 (x11+1)) x475000 x475001 x475002) else(none)))) else(some (x10,0))
def ebbtideref08_Levels.f (k:Nat) (a0_0:Int) (a0_1:Bool) (l0_2:List (S74)) (l1:List Int) (a2:Int):Option (List Int × Int):=(ebbtideref07_Asked.f k a0_0 a0_1 l0_2 l1).bind fun t475=>(if t475=0 then((ebbtideref06_Node.f a0_0 a0_1 l0_2 a2).bind fun t476=>(if t476=true then((ebbtideref07_Steps.f k a0_0 a0_1 l0_2 l1).bind fun t477=>(ebbtideref08_Levels.l0 k a2 t477 ([]:List Int) 0 a0_0 a0_1 l0_2)) else(some (([]:List Int),1)))) else(some (([]:List Int),t475)))
set_option maxHeartbeats 8000000 in
set_option maxRecDepth 100000 in
theorem ebbtideref08_Levels.calls (k:Nat) (a0_0:Int) (a0_1:Bool) (A0_2:Option Addr) (c0_2:Nat) (l0_2:List (S74)) (A1:Option Addr) (c1:Nat) (l1:List Int) (a2:Int) (r1:List Int) (r2:Int) (w:World) (hr0_2:Kd.C k74 w A0_2 l0_2.length l0_2) (hc0_2:l0_2.length≤c0_2) (hr1:Kd.C (Kd.int .i64) w A1 l1.length l1) (hc1:l1.length≤c1) (h:ebbtideref08_Levels.f k a0_0 a0_1 l0_2 l1 a2=some (r1,r2)):
  Calls Try.prog 54 #[.agg #[.int .i64 a0_0, .bool a0_1, .slice A0_2 l0_2.length c0_2], .slice A1 l1.length c1, .int .i64 a2] w fun e w'=> ∃ v0_:Value,e= .returned (.tuple #[v0_, .int .i64 r2])∧Kd.R (Kd.int .i64) 3 w' w.heap.size (fun _=>True) v0_ r1∧Below w.heap.size w w':=by
 have hu24:=Try.underlying24
 have HR0_2:=Aside0.mk hr0_2
 have HC0_2:=Aside0.mk hc0_2
 clear hr0_2 hc0_2
 have HR1:=Aside0.mk hr1
 have HC1:=Aside0.mk hc1
 clear hr1 hc1
 have HB:=Aside0.mk (Below.refl w.heap.size w)
 have H:((ebbtideref07_Asked.f k a0_0 a0_1 l0_2 l1).bind fun t475=>(if t475=0 then((ebbtideref06_Node.f a0_0 a0_1 l0_2 a2).bind fun t476=>(if t476=true then((ebbtideref07_Steps.f k a0_0 a0_1 l0_2 l1).bind fun t477=>(ebbtideref08_Levels.l0 k a2 t477 ([]:List Int) 0 a0_0 a0_1 l0_2)) else(some (([]:List Int),1)))) else(some (([]:List Int),t475))))=some (r1,r2):=h
 clear h
 replace H:=Option.bind_eq_some_iff.mp H
 obtain⟨t475,A40,H⟩:=H
 replace H:(if t475=0 then((ebbtideref06_Node.f a0_0 a0_1 l0_2 a2).bind fun t476=>(if t476=true then((ebbtideref07_Steps.f k a0_0 a0_1 l0_2 l1).bind fun t477=>(ebbtideref08_Levels.l0 k a2 t477 ([]:List Int) 0 a0_0 a0_1 l0_2)) else(some (([]:List Int),1)))) else(some (([]:List Int),t475)))=some (r1,r2):=H
 have A4:=Aside0.mk A40
 clear A40
 by_cases c5:t475=0
 rotate_left
 ·rw[if_neg c5] at H
  have c5b0:(t475 == 0)=false:=beq_eq_false_iff_ne.mpr c5
  have c5b1:(t475 != 0)=true:=bne_iff_ne.mpr c5
  simp only[Option.some.injEq,Prod.mk.injEq] at H
  obtain⟨rfl,rfl⟩:=H
  go_enter Try.func54,Try.ntmps54
  go_wp2_with (first|((with_reducible refine gate_dst (N:=3) rfl ?_);refine box_event ?hg (N:=3) ?hd (cs:= #[.int .i64 a0_0, .bool a0_1, .slice A0_2 l0_2.length c0_2]) (t:=24) ?hr ?_;(case hd=>rfl);(case hg=>rfl);(case hr=>first|(go_simp;done)|(go_simp;rfl));intro gb474 hg w36 hbox hb;have n0_:=Aside0.mk (below_step (by repeat(first|(with_reducible first|exact HB.out|apply below_alloc|apply pw_below_drewN|apply below_drew1)|exact HB.out)) hb);have n1_:=Aside0.mk (hbox);have n2_:=Aside0.mk ((by rw[hg];exact(below_size (by repeat(first|(with_reducible first|exact HB.out|apply below_alloc|apply pw_below_drewN|apply below_drew1)|exact HB.out))):w.heap.size≤gb474));have n3_:=Aside0.mk ((by rw[hg];exact(below_size (by repeat(first|(with_reducible first|exact HB.out|apply below_alloc|apply pw_below_drewN|apply below_drew1)|exact HB.out))):w.heap.size≤gb474));clear HB;have HB:=n0_;have BK474:=n1_;have GW474:=n2_;have GE474:=n3_;clear n0_ n1_ n2_ n3_;clear hb hbox hg;have hcz37_0:w36.cell? ⟨gb474,0,none⟩=some (.int .i64 a0_0):=(blk_cell BK474.out 0).trans rfl;have hcz37_1:w36.cell? ⟨gb474,1,none⟩=some (.bool a0_1):=(blk_cell BK474.out 1).trans rfl;have hcz37_2:w36.cell? ⟨gb474,2,none⟩=some (.slice A0_2 l0_2.length c0_2):=(blk_cell BK474.out 2).trans rfl;have hfz37_0:=blk_frozen BK474.out 0;have hfz37_1:=blk_frozen BK474.out 1;have hfz37_2:=blk_frozen BK474.out 2)|((with_reducible refine gate_callee (f:=98) rfl ?_);refine goesL_ (some 16) rfl rfl Try.func98 (by kernel_rfl) rfl #[.agg #[.int .i64 a0_0, .bool a0_1, .slice A0_2 l0_2.length c0_2], .slice A1 l1.length c1] rfl (by(try simp only[List.map_toArray,List.map_cons,List.map_nil]);first|done|rfl|(simp only[List.length_drop,List.length_take];rfl)) ?_;(with_reducible refine(ebbtideref07_Asked.calls k a0_0 a0_1 _ _ l0_2 _ _ l1 t475 _ ?side1 ?side2 ?side3 ?side4 A4.out).mono ?_);(case side1=>repeat(first|exact(Kd.C_below HR0_2.out HB.out)|(with_reducible refine Kd.C_alloc ?_ _)|(with_reducible refine Kd.C_drewN ?_ _)|(with_reducible refine Kd.C_drew ?_)));(case side2=>exact HC0_2.out);(case side3=>repeat(first|exact(Kd.C_below HR1.out HB.out)|(with_reducible refine Kd.C_alloc ?_ _)|(with_reducible refine Kd.C_drewN ?_ _)|(with_reducible refine Kd.C_drew ?_)));(case side4=>exact HC1.out);rintro e w38 ⟨rfl,hb⟩;refine⟨_,rfl,?_⟩;have n0_:=Aside0.mk (blk_below (g:=gb474) (o:= .cells #[.int .i64 a0_0, .bool a0_1, .slice A0_2 l0_2.length c0_2] 24 (0,0)) (by(with_reducible repeat(first|refine blk_drewN ?_ _|refine blk_drew ?_|refine blk_alloc ?_ _));exact BK474.out) hb);have n1_:=Aside0.mk (below_step (by repeat(first|(with_reducible first|exact HB.out|apply below_alloc|apply pw_below_drewN|apply below_drew1|refine below_set ?_ GE474.out)|exact HB.out)) hb);clear BK474;clear HB;have BK474:=n0_;have HB:=n1_;clear n0_ n1_;(try clear hb);(try clear hb2);(try clear hk);(try clear hi)))
  go_ret2
  exact⟨_,by first|rfl|(simp[errW_none,errW_some]<;>rfl)|(simp[*,errW_none,errW_some]<;>rfl),by first|exact Kd.R_nil _ _ _ _ _|exact Kd.N_nil _ _ _ _ _|exact Kd.V_nil _ _ _ _ _|exact Kd.Q_nil _ _ _ _ _|exact Kd.S_nil _ _ _ _ _,by repeat(first|(with_reducible first|exact HB.out|apply below_alloc|apply pw_below_drewN|apply below_drew1|refine below_set ?_ GE474.out)|exact HB.out)⟩
 rw[if_pos c5] at H
 have c5b0:(t475 == 0)=true:=beq_iff_eq.mpr c5
 have c5b1:(t475 != 0)=false:=bne_eq_false_iff_eq.mpr c5
 clear c5
 replace H:=Option.bind_eq_some_iff.mp H
 obtain⟨t476,A60,H⟩:=H
 replace H:(if t476=true then((ebbtideref07_Steps.f k a0_0 a0_1 l0_2 l1).bind fun t477=>(ebbtideref08_Levels.l0 k a2 t477 ([]:List Int) 0 a0_0 a0_1 l0_2)) else(some (([]:List Int),1)))=some (r1,r2):=H
 have A6:=Aside0.mk A60
 clear A60
 by_cases c7:t476=true
 rotate_left
 ·replace c7:=Bool.eq_false_iff.mpr c7
  subst c7
  have H1:(some (([]:List Int),1))=some (r1,r2):=by rw[if_neg (show ¬ (false=true) by decide)] at H;exact H
  clear H
  have H:=H1
  clear H1
  simp only[Option.some.injEq,Prod.mk.injEq] at H
  obtain⟨rfl,rfl⟩:=H
  go_enter Try.func54,Try.ntmps54
  go_wp2_with (first|((with_reducible refine gate_dst (N:=3) rfl ?_);refine box_event ?hg (N:=3) ?hd (cs:= #[.int .i64 a0_0, .bool a0_1, .slice A0_2 l0_2.length c0_2]) (t:=24) ?hr ?_;(case hd=>rfl);(case hg=>rfl);(case hr=>first|(go_simp;done)|(go_simp;rfl));intro gb474 hg w31 hbox hb;have n0_:=Aside0.mk (below_step (by repeat(first|(with_reducible first|exact HB.out|apply below_alloc|apply pw_below_drewN|apply below_drew1)|exact HB.out)) hb);have n1_:=Aside0.mk (hbox);have n2_:=Aside0.mk ((by rw[hg];exact(below_size (by repeat(first|(with_reducible first|exact HB.out|apply below_alloc|apply pw_below_drewN|apply below_drew1)|exact HB.out))):w.heap.size≤gb474));have n3_:=Aside0.mk ((by rw[hg];exact(below_size (by repeat(first|(with_reducible first|exact HB.out|apply below_alloc|apply pw_below_drewN|apply below_drew1)|exact HB.out))):w.heap.size≤gb474));clear HB;have HB:=n0_;have BK474:=n1_;have GW474:=n2_;have GE474:=n3_;clear n0_ n1_ n2_ n3_;clear hb hbox hg;have hcz32_0:w31.cell? ⟨gb474,0,none⟩=some (.int .i64 a0_0):=(blk_cell BK474.out 0).trans rfl;have hcz32_1:w31.cell? ⟨gb474,1,none⟩=some (.bool a0_1):=(blk_cell BK474.out 1).trans rfl;have hcz32_2:w31.cell? ⟨gb474,2,none⟩=some (.slice A0_2 l0_2.length c0_2):=(blk_cell BK474.out 2).trans rfl;have hfz32_0:=blk_frozen BK474.out 0;have hfz32_1:=blk_frozen BK474.out 1;have hfz32_2:=blk_frozen BK474.out 2)|((with_reducible refine gate_callee (f:=98) rfl ?_);refine goesL_ (some 16) rfl rfl Try.func98 (by kernel_rfl) rfl #[.agg #[.int .i64 a0_0, .bool a0_1, .slice A0_2 l0_2.length c0_2], .slice A1 l1.length c1] rfl (by(try simp only[List.map_toArray,List.map_cons,List.map_nil]);first|done|rfl|(simp only[List.length_drop,List.length_take];rfl)) ?_;(with_reducible refine(ebbtideref07_Asked.calls k a0_0 a0_1 _ _ l0_2 _ _ l1 t475 _ ?side1 ?side2 ?side3 ?side4 A4.out).mono ?_);(case side1=>repeat(first|exact(Kd.C_below HR0_2.out HB.out)|(with_reducible refine Kd.C_alloc ?_ _)|(with_reducible refine Kd.C_drewN ?_ _)|(with_reducible refine Kd.C_drew ?_)));(case side2=>exact HC0_2.out);(case side3=>repeat(first|exact(Kd.C_below HR1.out HB.out)|(with_reducible refine Kd.C_alloc ?_ _)|(with_reducible refine Kd.C_drewN ?_ _)|(with_reducible refine Kd.C_drew ?_)));(case side4=>exact HC1.out);rintro e w33 ⟨rfl,hb⟩;refine⟨_,rfl,?_⟩;have n0_:=Aside0.mk (blk_below (g:=gb474) (o:= .cells #[.int .i64 a0_0, .bool a0_1, .slice A0_2 l0_2.length c0_2] 24 (0,0)) (by(with_reducible repeat(first|refine blk_drewN ?_ _|refine blk_drew ?_|refine blk_alloc ?_ _));exact BK474.out) hb);have n1_:=Aside0.mk (below_step (by repeat(first|(with_reducible first|exact HB.out|apply below_alloc|apply pw_below_drewN|apply below_drew1|refine below_set ?_ GE474.out)|exact HB.out)) hb);clear BK474;clear HB;have BK474:=n0_;have HB:=n1_;clear n0_ n1_;(try clear hb);(try clear hb2);(try clear hk);(try clear hi);have hcz34_0:w33.cell? ⟨gb474,0,none⟩=some (.int .i64 a0_0):=(blk_cell BK474.out 0).trans rfl;have hcz34_1:w33.cell? ⟨gb474,1,none⟩=some (.bool a0_1):=(blk_cell BK474.out 1).trans rfl;have hcz34_2:w33.cell? ⟨gb474,2,none⟩=some (.slice A0_2 l0_2.length c0_2):=(blk_cell BK474.out 2).trans rfl;have hfz34_0:=blk_frozen BK474.out 0;have hfz34_1:=blk_frozen BK474.out 1;have hfz34_2:=blk_frozen BK474.out 2)|((with_reducible refine gate_callee (f:=99) rfl ?_);refine goesL_ (some 22) rfl rfl Try.func99 (by kernel_rfl) rfl #[.agg #[.int .i64 a0_0, .bool a0_1, .slice A0_2 l0_2.length c0_2], .int .i64 a2] rfl (by(try simp only[List.map_toArray,List.map_cons,List.map_nil]);first|done|rfl|(simp only[List.length_drop,List.length_take];rfl)) ?_;(with_reducible refine(ebbtideref06_Node.calls a0_0 a0_1 _ _ l0_2 a2 false _ ?side1 ?side2 A6.out).mono ?_);(case side1=>repeat(first|exact(Kd.C_below HR0_2.out HB.out)|(with_reducible refine Kd.C_alloc ?_ _)|(with_reducible refine Kd.C_drewN ?_ _)|(with_reducible refine Kd.C_drew ?_)));(case side2=>exact HC0_2.out);rintro e w35 ⟨rfl,hb⟩;refine⟨_,rfl,?_⟩;have n0_:=Aside0.mk (blk_below (g:=gb474) (o:= .cells #[.int .i64 a0_0, .bool a0_1, .slice A0_2 l0_2.length c0_2] 24 (0,0)) (by(with_reducible repeat(first|refine blk_drewN ?_ _|refine blk_drew ?_|refine blk_alloc ?_ _));exact BK474.out) hb);have n1_:=Aside0.mk (below_step (by repeat(first|(with_reducible first|exact HB.out|apply below_alloc|apply pw_below_drewN|apply below_drew1|refine below_set ?_ GE474.out)|exact HB.out)) hb);clear BK474;clear HB;have BK474:=n0_;have HB:=n1_;clear n0_ n1_;(try clear hb);(try clear hb2);(try clear hk);(try clear hi)))
  go_ret2
  exact⟨_,by first|rfl|(simp[errW_none,errW_some]<;>rfl)|(simp[*,errW_none,errW_some]<;>rfl),by first|exact Kd.R_nil _ _ _ _ _|exact Kd.N_nil _ _ _ _ _|exact Kd.V_nil _ _ _ _ _|exact Kd.Q_nil _ _ _ _ _|exact Kd.S_nil _ _ _ _ _,by repeat(first|(with_reducible first|exact HB.out|apply below_alloc|apply pw_below_drewN|apply below_drew1|refine below_set ?_ GE474.out)|exact HB.out)⟩
 subst c7
 have H1:((ebbtideref07_Steps.f k a0_0 a0_1 l0_2 l1).bind fun t477=>(ebbtideref08_Levels.l0 k a2 t477 ([]:List Int) 0 a0_0 a0_1 l0_2))=some (r1,r2):=by first|(rw[if_pos rfl] at H;exact H)|(rw[if_pos trivial] at H;exact H)
 clear H
 have H:=H1
 clear H1
 replace H:=Option.bind_eq_some_iff.mp H
 obtain⟨t477,A80,H⟩:=H
 replace H:(ebbtideref08_Levels.l0 k a2 t477 ([]:List Int) 0 a0_0 a0_1 l0_2)=some (r1,r2):=H
 have A8:=Aside0.mk A80
 clear A80
 have H':=Aside0.mk H
 clear H
 go_enter Try.func54,Try.ntmps54
 go_wp2_with (first|((with_reducible refine gate_dst (N:=3) rfl ?_);refine box_event ?hg (N:=3) ?hd (cs:= #[.int .i64 a0_0, .bool a0_1, .slice A0_2 l0_2.length c0_2]) (t:=24) ?hr ?_;(case hd=>rfl);(case hg=>rfl);(case hr=>first|(go_simp;done)|(go_simp;rfl));intro gb474 hg w9 hbox hb;have n0_:=Aside0.mk (below_step (by repeat(first|(with_reducible first|exact HB.out|apply below_alloc|apply pw_below_drewN|apply below_drew1)|exact HB.out)) hb);have n1_:=Aside0.mk (hbox);have n2_:=Aside0.mk ((by rw[hg];exact(below_size (by repeat(first|(with_reducible first|exact HB.out|apply below_alloc|apply pw_below_drewN|apply below_drew1)|exact HB.out))):w.heap.size≤gb474));have n3_:=Aside0.mk ((by rw[hg];exact(below_size (by repeat(first|(with_reducible first|exact HB.out|apply below_alloc|apply pw_below_drewN|apply below_drew1)|exact HB.out))):w.heap.size≤gb474));clear HB;have HB:=n0_;have BK474:=n1_;have GW474:=n2_;have GE474:=n3_;clear n0_ n1_ n2_ n3_;clear hb hbox hg;have hcz10_0:w9.cell? ⟨gb474,0,none⟩=some (.int .i64 a0_0):=(blk_cell BK474.out 0).trans rfl;have hcz10_1:w9.cell? ⟨gb474,1,none⟩=some (.bool a0_1):=(blk_cell BK474.out 1).trans rfl;have hcz10_2:w9.cell? ⟨gb474,2,none⟩=some (.slice A0_2 l0_2.length c0_2):=(blk_cell BK474.out 2).trans rfl;have hfz10_0:=blk_frozen BK474.out 0;have hfz10_1:=blk_frozen BK474.out 1;have hfz10_2:=blk_frozen BK474.out 2)|((with_reducible refine gate_callee (f:=98) rfl ?_);refine goesL_ (some 16) rfl rfl Try.func98 (by kernel_rfl) rfl #[.agg #[.int .i64 a0_0, .bool a0_1, .slice A0_2 l0_2.length c0_2], .slice A1 l1.length c1] rfl (by(try simp only[List.map_toArray,List.map_cons,List.map_nil]);first|done|rfl|(simp only[List.length_drop,List.length_take];rfl)) ?_;(with_reducible refine(ebbtideref07_Asked.calls k a0_0 a0_1 _ _ l0_2 _ _ l1 t475 _ ?side1 ?side2 ?side3 ?side4 A4.out).mono ?_);(case side1=>repeat(first|exact(Kd.C_below HR0_2.out HB.out)|(with_reducible refine Kd.C_alloc ?_ _)|(with_reducible refine Kd.C_drewN ?_ _)|(with_reducible refine Kd.C_drew ?_)));(case side2=>exact HC0_2.out);(case side3=>repeat(first|exact(Kd.C_below HR1.out HB.out)|(with_reducible refine Kd.C_alloc ?_ _)|(with_reducible refine Kd.C_drewN ?_ _)|(with_reducible refine Kd.C_drew ?_)));(case side4=>exact HC1.out);rintro e w11 ⟨rfl,hb⟩;refine⟨_,rfl,?_⟩;have n0_:=Aside0.mk (blk_below (g:=gb474) (o:= .cells #[.int .i64 a0_0, .bool a0_1, .slice A0_2 l0_2.length c0_2] 24 (0,0)) (by(with_reducible repeat(first|refine blk_drewN ?_ _|refine blk_drew ?_|refine blk_alloc ?_ _));exact BK474.out) hb);have n1_:=Aside0.mk (below_step (by repeat(first|(with_reducible first|exact HB.out|apply below_alloc|apply pw_below_drewN|apply below_drew1|refine below_set ?_ GE474.out)|exact HB.out)) hb);clear BK474;clear HB;have BK474:=n0_;have HB:=n1_;clear n0_ n1_;(try clear hb);(try clear hb2);(try clear hk);(try clear hi);have hcz12_0:w11.cell? ⟨gb474,0,none⟩=some (.int .i64 a0_0):=(blk_cell BK474.out 0).trans rfl;have hcz12_1:w11.cell? ⟨gb474,1,none⟩=some (.bool a0_1):=(blk_cell BK474.out 1).trans rfl;have hcz12_2:w11.cell? ⟨gb474,2,none⟩=some (.slice A0_2 l0_2.length c0_2):=(blk_cell BK474.out 2).trans rfl;have hfz12_0:=blk_frozen BK474.out 0;have hfz12_1:=blk_frozen BK474.out 1;have hfz12_2:=blk_frozen BK474.out 2)|((with_reducible refine gate_callee (f:=99) rfl ?_);refine goesL_ (some 22) rfl rfl Try.func99 (by kernel_rfl) rfl #[.agg #[.int .i64 a0_0, .bool a0_1, .slice A0_2 l0_2.length c0_2], .int .i64 a2] rfl (by(try simp only[List.map_toArray,List.map_cons,List.map_nil]);first|done|rfl|(simp only[List.length_drop,List.length_take];rfl)) ?_;(with_reducible refine(ebbtideref06_Node.calls a0_0 a0_1 _ _ l0_2 a2 true _ ?side1 ?side2 A6.out).mono ?_);(case side1=>repeat(first|exact(Kd.C_below HR0_2.out HB.out)|(with_reducible refine Kd.C_alloc ?_ _)|(with_reducible refine Kd.C_drewN ?_ _)|(with_reducible refine Kd.C_drew ?_)));(case side2=>exact HC0_2.out);rintro e w13 ⟨rfl,hb⟩;refine⟨_,rfl,?_⟩;have n0_:=Aside0.mk (blk_below (g:=gb474) (o:= .cells #[.int .i64 a0_0, .bool a0_1, .slice A0_2 l0_2.length c0_2] 24 (0,0)) (by(with_reducible repeat(first|refine blk_drewN ?_ _|refine blk_drew ?_|refine blk_alloc ?_ _));exact BK474.out) hb);have n1_:=Aside0.mk (below_step (by repeat(first|(with_reducible first|exact HB.out|apply below_alloc|apply pw_below_drewN|apply below_drew1|refine below_set ?_ GE474.out)|exact HB.out)) hb);clear BK474;clear HB;have BK474:=n0_;have HB:=n1_;clear n0_ n1_;(try clear hb);(try clear hb2);(try clear hk);(try clear hi);have hcz14_0:w13.cell? ⟨gb474,0,none⟩=some (.int .i64 a0_0):=(blk_cell BK474.out 0).trans rfl;have hcz14_1:w13.cell? ⟨gb474,1,none⟩=some (.bool a0_1):=(blk_cell BK474.out 1).trans rfl;have hcz14_2:w13.cell? ⟨gb474,2,none⟩=some (.slice A0_2 l0_2.length c0_2):=(blk_cell BK474.out 2).trans rfl;have hfz14_0:=blk_frozen BK474.out 0;have hfz14_1:=blk_frozen BK474.out 1;have hfz14_2:=blk_frozen BK474.out 2)|((with_reducible refine gate_callee (f:=43) rfl ?_);refine goesL_ (some 26) rfl rfl Try.func43 (by kernel_rfl) rfl #[.agg #[.int .i64 a0_0, .bool a0_1, .slice A0_2 l0_2.length c0_2], .slice A1 l1.length c1] rfl (by(try simp only[List.map_toArray,List.map_cons,List.map_nil]);first|done|rfl|(simp only[List.length_drop,List.length_take];rfl)) ?_;(with_reducible refine(ebbtideref07_Steps.calls k a0_0 a0_1 _ _ l0_2 _ _ l1 t477 _ ?side1 ?side2 ?side3 ?side4 A8.out).mono ?_);(case side1=>repeat(first|exact(Kd.C_below HR0_2.out HB.out)|(with_reducible refine Kd.C_alloc ?_ _)|(with_reducible refine Kd.C_drewN ?_ _)|(with_reducible refine Kd.C_drew ?_)));(case side2=>exact HC0_2.out);(case side3=>repeat(first|exact(Kd.C_below HR1.out HB.out)|(with_reducible refine Kd.C_alloc ?_ _)|(with_reducible refine Kd.C_drewN ?_ _)|(with_reducible refine Kd.C_drew ?_)));(case side4=>exact HC1.out);rintro e w15 ⟨v478,rfl,ho0,hb⟩;refine⟨_,rfl,?_⟩;have n0_:=Aside0.mk (Kd.R_lower ho0 (below_size (by repeat(first|(with_reducible first|exact HB.out|apply below_alloc|apply pw_below_drewN|apply below_drew1|refine below_set ?_ GE474.out)|exact HB.out))));have n1_:=Aside0.mk (blk_below (g:=gb474) (o:= .cells #[.int .i64 a0_0, .bool a0_1, .slice A0_2 l0_2.length c0_2] 24 (0,0)) (by(with_reducible repeat(first|refine blk_drewN ?_ _|refine blk_drew ?_|refine blk_alloc ?_ _));exact BK474.out) hb);have n2_:=Aside0.mk (below_step (by repeat(first|(with_reducible first|exact HB.out|apply below_alloc|apply pw_below_drewN|apply below_drew1|refine below_set ?_ GE474.out)|exact HB.out)) hb);clear BK474;clear HB;have HO479:=n0_;have BK474:=n1_;have HB:=n2_;clear n0_ n1_ n2_;(try clear hb);(try clear hb2);(try clear hk);(try clear hi);(try clear ho0)))
 go_loopg [10,11] k (fun kq v10 v11 w'=> ∃ (x10_1:List Int) (x11_1:Int),v11= .int .i64 x11_1∧Aside0 (ebbtideref08_Levels.l0 kq a2 t477 x10_1 x11_1 a0_0 a0_1 l0_2=some (r1,r2))∧Aside0 (kq≤k)∧Aside0 (Kd.R k38 38 w' w.heap.size (fun _=>True) v478 t477)∧Aside0 (Kd.R (Kd.int .i64) 3 w' w.heap.size (fun _=>True) v10 x10_1)∧Aside0 (w'.heap[gb474]? =some (.cells #[.int .i64 a0_0, .bool a0_1,(.slice A0_2 l0_2.length c0_2)] 24 (0,0)))∧Aside0 (Below w.heap.size w w'))
 case atStart=>exact⟨(([]:List Int)),(0),(by first|rfl|(simp;done)|(simp[*];done)),H',⟨Nat.le_refl _⟩,⟨by(with_reducible repeat(first|apply Kd.R_alloc|apply Kd.R_drewN|apply Kd.R_drew));exact HO479.out⟩,⟨by first|exact Kd.R_nil _ _ _ _ _|exact Kd.N_nil _ _ _ _ _|exact Kd.V_nil _ _ _ _ _|exact Kd.Q_nil _ _ _ _ _|exact Kd.S_nil _ _ _ _ _⟩,⟨by(with_reducible repeat(first|refine blk_drewN ?_ _|refine blk_drew ?_|refine blk_alloc ?_ _));exact BK474.out⟩,⟨by repeat(first|(with_reducible first|exact HB.out|apply below_alloc|apply pw_below_drewN|apply below_drew1|refine below_set ?_ GE474.out)|exact HB.out)⟩⟩
 case round=>
  clear H'
  try clear c1
  try clear p2
  try clear c4
  try clear c5
  try clear c5b0
  try clear c5b1
  try clear c7
  try clear c9
  try clear hcz10_0
  try clear hcz10_1
  try clear hcz10_2
  try clear hcz12_0
  try clear hcz12_1
  try clear hcz12_2
  try clear hcz14_0
  try clear hcz14_1
  try clear hcz14_2
  try clear hfz10_0
  try clear hfz10_1
  try clear hfz10_2
  try clear hfz12_0
  try clear hfz12_1
  try clear hfz12_2
  try clear hfz14_0
  try clear hfz14_1
  try clear hfz14_2
  obtain⟨x10_1,x11_1,rfl,HA,HK1,HO_9,HO_10,BK474,HB⟩:=hrel
  cases gk with
  |zero=>exact absurd HA.out (by simp[ebbtideref08_Levels.l0])
  |succ k1=>
   have H:=HA.out
   clear HA
   simp only[ebbtideref08_Levels.l0] at H
   by_cases c16:x11_1<a0_0
   rotate_left
   ·rw[if_neg c16] at H
    have c16b0:decide (x11_1<a0_0)=false:=decide_eq_false c16
    clear c16
    simp only[Option.some.injEq,Prod.mk.injEq] at H
    obtain⟨rfl,rfl⟩:=H
    have hcz30_0:wr.cell? ⟨gb474,0,none⟩=some (.int .i64 a0_0):=(blk_cell BK474.out 0).trans rfl
    have hcz30_1:wr.cell? ⟨gb474,1,none⟩=some (.bool a0_1):=(blk_cell BK474.out 1).trans rfl
    have hcz30_2:wr.cell? ⟨gb474,2,none⟩=some (.slice A0_2 l0_2.length c0_2):=(blk_cell BK474.out 2).trans rfl
    have hfz30_0:=blk_frozen BK474.out 0
    have hfz30_1:=blk_frozen BK474.out 1
    have hfz30_2:=blk_frozen BK474.out 2
    go_wp2
    go_ret2
    exact⟨_,by first|rfl|(simp[errW_none,errW_some]<;>rfl)|(simp[*,errW_none,errW_some]<;>rfl),by(with_reducible repeat(first|apply Kd.R_alloc|apply Kd.R_drewN|apply Kd.R_drew));exact HO_10.out,by repeat(first|(with_reducible first|exact HB.out|apply below_alloc|apply pw_below_drewN|apply below_drew1|refine below_set ?_ GE474.out)|exact HB.out)⟩
   rw[if_pos c16] at H
   have c16b0:decide (x11_1<a0_0)=true:=decide_eq_true c16
   clear c16
   replace H:=Option.bind_eq_some_iff.mp H
   obtain⟨⟨t480,t483⟩,A170,H⟩:=H
   replace H:(if t483=true then(if x10_1.length<17592186044416 then(ebbtideref08_Levels.l0 k1 a2 t477 (x10_1 ++ [(t480.length:Int)]) (wrap64 (x11_1+1)) a0_0 a0_1 l0_2) else(none)) else(if x10_1.length<17592186044416 then(ebbtideref08_Levels.l0 k1 a2 t477 (x10_1 ++ [(-1)]) (wrap64 (x11_1+1)) a0_0 a0_1 l0_2) else(none)))=some (r1,r2):=H
   have A17:=Aside0.mk A170
   clear A170
   by_cases c18:t483=true
   ·subst c18
    have H1:(if x10_1.length<17592186044416 then(ebbtideref08_Levels.l0 k1 a2 t477 (x10_1 ++ [(t480.length:Int)]) (wrap64 (x11_1+1)) a0_0 a0_1 l0_2) else(none))=some (r1,r2):=by first|(rw[if_pos rfl] at H;exact H)|(rw[if_pos trivial] at H;exact H)
    clear H
    have H:=H1
    clear H1
    by_cases c19:x10_1.length<17592186044416
    rotate_left
    ·rw[if_neg c19] at H
     exact absurd H (by simp)
    rw[if_pos c19] at H
    have LMc19:=Aside0.mk c19
    clear c19
    obtain⟨y484,hy484⟩: ∃ y_:List Int,y_=(x10_1 ++ [(t480.length:Int)]):=⟨_,rfl⟩
    replace H:(ebbtideref08_Levels.l0 k1 a2 t477 y484 (wrap64 (x11_1+1)) a0_0 a0_1 l0_2)=some (r1,r2):=by first|(rw[hy484];with_reducible exact H)|(have H2_:=(Option.bind_some _ _).symm.trans H;rw[hy484];with_reducible exact H2_)|(have H2_:=(Option.bind_some _ _).symm.trans H;with_reducible exact H2_)|with_reducible exact H|(rw[hy484];exact H)|exact H
    have Ny484:=Aside0.mk hy484
    clear hy484
    have H':=Aside0.mk H
    clear H
    have hcz20_0:wr.cell? ⟨gb474,0,none⟩=some (.int .i64 a0_0):=(blk_cell BK474.out 0).trans rfl
    have hcz20_1:wr.cell? ⟨gb474,1,none⟩=some (.bool a0_1):=(blk_cell BK474.out 1).trans rfl
    have hcz20_2:wr.cell? ⟨gb474,2,none⟩=some (.slice A0_2 l0_2.length c0_2):=(blk_cell BK474.out 2).trans rfl
    have hfz20_0:=blk_frozen BK474.out 0
    have hfz20_1:=blk_frozen BK474.out 1
    have hfz20_2:=blk_frozen BK474.out 2
    obtain⟨Ao21,co21,eo21⟩:=Kd.R_slice HO_9.out
    subst eo21
    go_wp2_with (first|((with_reducible refine gate_callee (f:=109) rfl ?_);refine goesL_ (some 38) rfl rfl Try.func109 (by kernel_rfl) rfl #[.agg #[.int .i64 a0_0, .bool a0_1, .slice A0_2 l0_2.length c0_2], .int .i64 a2, .int .i64 x11_1, .slice Ao21 t477.length co21] rfl (by(try simp only[List.map_toArray,List.map_cons,List.map_nil]);first|done|rfl|(simp only[List.length_drop,List.length_take];rfl)) ?_;(with_reducible refine(ebbtideref08_Way.calls a0_0 a0_1 _ _ l0_2 a2 x11_1 _ _ t477 t480 true _ ?side1 ?side2 ?side3 ?side4 A17.out).mono ?_);(case side1=>repeat(first|exact(Kd.C_below HR0_2.out HB.out)|(with_reducible refine Kd.C_alloc ?_ _)|(with_reducible refine Kd.C_drewN ?_ _)|(with_reducible refine Kd.C_drew ?_)));(case side2=>exact HC0_2.out);(case side3=>repeat(first|exact(Kd.R_reads' HO_9.out).2.2|(with_reducible refine Kd.C_alloc ?_ _)|(with_reducible refine Kd.C_drewN ?_ _)|(with_reducible refine Kd.C_drew ?_)));(case side4=>exact(Kd.R_reads' HO_9.out).2.1);rintro e w22 ⟨v481,rfl,ho0,hb⟩;refine⟨_,rfl,?_⟩;have n0_:=Aside0.mk (Kd.R_elder' (by(with_reducible repeat(first|apply Kd.R_alloc|apply Kd.R_drewN|apply Kd.R_drew));exact HO_9.out) (Kd.R_base ho0) hb);have n1_:=Aside0.mk (Kd.R_below (by(with_reducible repeat(first|apply Kd.R_alloc|apply Kd.R_drewN|apply Kd.R_drew));exact HO_10.out) hb);have n2_:=Aside0.mk (Kd.R_lower (Kd.R_new' ho0 (Kd.R_lt (by(with_reducible repeat(first|apply Kd.R_alloc|apply Kd.R_drewN|apply Kd.R_drew));exact HO_9.out))) (below_size (by repeat(first|(with_reducible first|exact HB.out|apply below_alloc|apply pw_below_drewN|apply below_drew1|refine below_set ?_ GE474.out)|exact HB.out))));have n3_:=Aside0.mk (blk_below (g:=gb474) (o:= .cells #[.int .i64 a0_0, .bool a0_1, .slice A0_2 l0_2.length c0_2] 24 (0,0)) (by(with_reducible repeat(first|refine blk_drewN ?_ _|refine blk_drew ?_|refine blk_alloc ?_ _));exact BK474.out) hb);have n4_:=Aside0.mk (below_step (by repeat(first|(with_reducible first|exact HB.out|apply below_alloc|apply pw_below_drewN|apply below_drew1|refine below_set ?_ GE474.out)|exact HB.out)) hb);clear HO_9;clear HO_10;clear BK474;clear HB;have HO_9:=n0_;have HO_10:=n1_;have HO482:=n2_;have BK474:=n3_;have HB:=n4_;clear n0_ n1_ n2_ n3_ n4_;(try clear hb);(try clear hb2);(try clear hk);(try clear hi);(try clear ho0);obtain⟨Ao23,co23,eo23⟩:=Kd.R_slice HO482.out;subst eo23)|((with_reducible refine gate_builtin (b:= .append) (xs:= #[.tmp 42, .tmp 45]) rfl ?_);at_builtin;refine Kd.R_append (Kd.int .i64) (w0:=w) w.heap.size rfl (.tmp 42) (.tmp 45) 25 3 (.int .i64 0) 8 rfl Try.underlying25 info3 rfl (by decide) (by omega) u10 x10_1 (t480.length:Int) [.int .i64 (t480.length:Int)] (fun _=>True) (fun _=>False) rfl rfl ?aP (fun _ hk=>hk.elim) ?aF ?aO ?aB ?aS ?aL ?_;(case aP=>exact rfl);(case aB=>exact(by repeat(first|(with_reducible first|exact HB.out|apply below_alloc|apply pw_below_drewN|apply below_drew1|refine below_set ?_ GE474.out)|exact HB.out)));(case aF=>exact(fun _ _=>trivial));(case aO=>exact(by(with_reducible repeat(first|apply Kd.R_alloc|apply Kd.R_drewN|apply Kd.R_drew));exact HO_10.out));(case aS=>exact(below_size (by repeat(first|(with_reducible first|exact HB.out|apply below_alloc|apply pw_below_drewN|apply below_drew1|refine below_set ?_ GE474.out)|exact HB.out))));(case aL=>have:=LMc19.out;omega);intro v485 w24 ho hb hg hat;rw[← Ny484.out] at ho;have n0_:=Aside0.mk (Kd.R_over' (by(with_reducible repeat(first|apply Kd.R_alloc|apply Kd.R_drewN|apply Kd.R_drew));exact HO_9.out) (Kd.R_typed (by(with_reducible repeat(first|apply Kd.R_alloc|apply Kd.R_drewN|apply Kd.R_drew));exact HO_10.out)) (by decide) hg);have n1_:=Aside0.mk (blk_grown (g:=gb474) (o:= .cells #[.int .i64 a0_0, .bool a0_1, .slice A0_2 l0_2.length c0_2] 24 (0,0)) (by(with_reducible repeat(first|refine blk_drewN ?_ _|refine blk_drew ?_|refine blk_alloc ?_ _));exact BK474.out) hg (Kd.R_ne HO_10.out BK474.out (by decide)));have n2_:=Aside0.mk (Kd.R_over' (by(with_reducible repeat(first|apply Kd.R_alloc|apply Kd.R_drewN|apply Kd.R_drew));exact HO482.out) (Kd.R_typed (by(with_reducible repeat(first|apply Kd.R_alloc|apply Kd.R_drewN|apply Kd.R_drew));exact HO_10.out)) (by decide) hg);have n3_:=Aside0.mk (hb);have n4_:=Aside0.mk (ho);clear HO_9;clear BK474;clear HO482;clear HB;clear HO_10;have HO_9:=n0_;have BK474:=n1_;have HO482:=n2_;have HB:=n3_;have HO486:=n4_;clear n0_ n1_ n2_ n3_ n4_;clear ho hb hg hat))
    go_roundg k1
    case measure=>have:=HK1.out;omega
    case rel=>exact⟨(y484),(wrap64 (x11_1+1)),(by first|rfl|(simp;done)|(simp[*];done)),H',⟨by have:=HK1.out;omega⟩,⟨by(with_reducible repeat(first|apply Kd.R_alloc|apply Kd.R_drewN|apply Kd.R_drew));exact Kd.R_mono HO_9.out (fun _ hk=>trivial)⟩,⟨by(with_reducible repeat(first|apply Kd.R_alloc|apply Kd.R_drewN|apply Kd.R_drew));exact HO486.out⟩,⟨by(with_reducible repeat(first|refine blk_drewN ?_ _|refine blk_drew ?_|refine blk_alloc ?_ _));exact BK474.out⟩,⟨by repeat(first|(with_reducible first|exact HB.out|apply below_alloc|apply pw_below_drewN|apply below_drew1|refine below_set ?_ GE474.out)|exact HB.out)⟩⟩
   replace c18:=Bool.eq_false_iff.mpr c18
   subst c18
   have H1:(if x10_1.length<17592186044416 then(ebbtideref08_Levels.l0 k1 a2 t477 (x10_1 ++ [(-1)]) (wrap64 (x11_1+1)) a0_0 a0_1 l0_2) else(none))=some (r1,r2):=by rw[if_neg (show ¬ (false=true) by decide)] at H;exact H
   clear H
   have H:=H1
   clear H1
   by_cases c25:x10_1.length<17592186044416
   rotate_left
   ·rw[if_neg c25] at H
    exact absurd H (by simp)
   rw[if_pos c25] at H
   have LMc25:=Aside0.mk c25
   clear c25
   obtain⟨y487,hy487⟩: ∃ y_:List Int,y_=(x10_1 ++ [(-1)]):=⟨_,rfl⟩
   replace H:(ebbtideref08_Levels.l0 k1 a2 t477 y487 (wrap64 (x11_1+1)) a0_0 a0_1 l0_2)=some (r1,r2):=by first|(rw[hy487];with_reducible exact H)|(have H2_:=(Option.bind_some _ _).symm.trans H;rw[hy487];with_reducible exact H2_)|(have H2_:=(Option.bind_some _ _).symm.trans H;with_reducible exact H2_)|with_reducible exact H|(rw[hy487];exact H)|exact H
   have Ny487:=Aside0.mk hy487
   clear hy487
   have H':=Aside0.mk H
   clear H
   have hcz26_0:wr.cell? ⟨gb474,0,none⟩=some (.int .i64 a0_0):=(blk_cell BK474.out 0).trans rfl
   have hcz26_1:wr.cell? ⟨gb474,1,none⟩=some (.bool a0_1):=(blk_cell BK474.out 1).trans rfl
   have hcz26_2:wr.cell? ⟨gb474,2,none⟩=some (.slice A0_2 l0_2.length c0_2):=(blk_cell BK474.out 2).trans rfl
   have hfz26_0:=blk_frozen BK474.out 0
   have hfz26_1:=blk_frozen BK474.out 1
   have hfz26_2:=blk_frozen BK474.out 2
   obtain⟨Ao27,co27,eo27⟩:=Kd.R_slice HO_9.out
   subst eo27
   go_wp2_with (first|((with_reducible refine gate_callee (f:=109) rfl ?_);refine goesL_ (some 38) rfl rfl Try.func109 (by kernel_rfl) rfl #[.agg #[.int .i64 a0_0, .bool a0_1, .slice A0_2 l0_2.length c0_2], .int .i64 a2, .int .i64 x11_1, .slice Ao27 t477.length co27] rfl (by(try simp only[List.map_toArray,List.map_cons,List.map_nil]);first|done|rfl|(simp only[List.length_drop,List.length_take];rfl)) ?_;(with_reducible refine(ebbtideref08_Way.calls a0_0 a0_1 _ _ l0_2 a2 x11_1 _ _ t477 t480 false _ ?side1 ?side2 ?side3 ?side4 A17.out).mono ?_);(case side1=>repeat(first|exact(Kd.C_below HR0_2.out HB.out)|(with_reducible refine Kd.C_alloc ?_ _)|(with_reducible refine Kd.C_drewN ?_ _)|(with_reducible refine Kd.C_drew ?_)));(case side2=>exact HC0_2.out);(case side3=>repeat(first|exact(Kd.R_reads' HO_9.out).2.2|(with_reducible refine Kd.C_alloc ?_ _)|(with_reducible refine Kd.C_drewN ?_ _)|(with_reducible refine Kd.C_drew ?_)));(case side4=>exact(Kd.R_reads' HO_9.out).2.1);rintro e w28 ⟨v481,rfl,ho0,hb⟩;refine⟨_,rfl,?_⟩;have n0_:=Aside0.mk (Kd.R_elder' (by(with_reducible repeat(first|apply Kd.R_alloc|apply Kd.R_drewN|apply Kd.R_drew));exact HO_9.out) (Kd.R_base ho0) hb);have n1_:=Aside0.mk (Kd.R_below (by(with_reducible repeat(first|apply Kd.R_alloc|apply Kd.R_drewN|apply Kd.R_drew));exact HO_10.out) hb);have n2_:=Aside0.mk (Kd.R_lower (Kd.R_new' ho0 (Kd.R_lt (by(with_reducible repeat(first|apply Kd.R_alloc|apply Kd.R_drewN|apply Kd.R_drew));exact HO_9.out))) (below_size (by repeat(first|(with_reducible first|exact HB.out|apply below_alloc|apply pw_below_drewN|apply below_drew1|refine below_set ?_ GE474.out)|exact HB.out))));have n3_:=Aside0.mk (blk_below (g:=gb474) (o:= .cells #[.int .i64 a0_0, .bool a0_1, .slice A0_2 l0_2.length c0_2] 24 (0,0)) (by(with_reducible repeat(first|refine blk_drewN ?_ _|refine blk_drew ?_|refine blk_alloc ?_ _));exact BK474.out) hb);have n4_:=Aside0.mk (below_step (by repeat(first|(with_reducible first|exact HB.out|apply below_alloc|apply pw_below_drewN|apply below_drew1|refine below_set ?_ GE474.out)|exact HB.out)) hb);clear HO_9;clear HO_10;clear BK474;clear HB;have HO_9:=n0_;have HO_10:=n1_;have HO482:=n2_;have BK474:=n3_;have HB:=n4_;clear n0_ n1_ n2_ n3_ n4_;(try clear hb);(try clear hb2);(try clear hk);(try clear hi);(try clear ho0))|((with_reducible refine gate_builtin (b:= .append) (xs:= #[.tmp 47, .tmp 48]) rfl ?_);at_builtin;refine Kd.R_append (Kd.int .i64) (w0:=w) w.heap.size rfl (.tmp 47) (.tmp 48) 25 3 (.int .i64 0) 8 rfl Try.underlying25 info3 rfl (by decide) (by omega) u10 x10_1 (-1) [.int .i64 (-1)] (fun _=>True) (fun _=>False) rfl rfl ?aP (fun _ hk=>hk.elim) ?aF ?aO ?aB ?aS ?aL ?_;(case aP=>exact rfl);(case aB=>exact(by repeat(first|(with_reducible first|exact HB.out|apply below_alloc|apply pw_below_drewN|apply below_drew1|refine below_set ?_ GE474.out)|exact HB.out)));(case aF=>exact(fun _ _=>trivial));(case aO=>exact(by(with_reducible repeat(first|apply Kd.R_alloc|apply Kd.R_drewN|apply Kd.R_drew));exact HO_10.out));(case aS=>exact(below_size (by repeat(first|(with_reducible first|exact HB.out|apply below_alloc|apply pw_below_drewN|apply below_drew1|refine below_set ?_ GE474.out)|exact HB.out))));(case aL=>have:=LMc25.out;omega);intro v488 w29 ho hb hg hat;rw[← Ny487.out] at ho;have n0_:=Aside0.mk (Kd.R_over' (by(with_reducible repeat(first|apply Kd.R_alloc|apply Kd.R_drewN|apply Kd.R_drew));exact HO_9.out) (Kd.R_typed (by(with_reducible repeat(first|apply Kd.R_alloc|apply Kd.R_drewN|apply Kd.R_drew));exact HO_10.out)) (by decide) hg);have n1_:=Aside0.mk (blk_grown (g:=gb474) (o:= .cells #[.int .i64 a0_0, .bool a0_1, .slice A0_2 l0_2.length c0_2] 24 (0,0)) (by(with_reducible repeat(first|refine blk_drewN ?_ _|refine blk_drew ?_|refine blk_alloc ?_ _));exact BK474.out) hg (Kd.R_ne HO_10.out BK474.out (by decide)));have n2_:=Aside0.mk (Kd.R_over' (by(with_reducible repeat(first|apply Kd.R_alloc|apply Kd.R_drewN|apply Kd.R_drew));exact HO482.out) (Kd.R_typed (by(with_reducible repeat(first|apply Kd.R_alloc|apply Kd.R_drewN|apply Kd.R_drew));exact HO_10.out)) (by decide) hg);have n3_:=Aside0.mk (hb);have n4_:=Aside0.mk (ho);clear HO_9;clear BK474;clear HO482;clear HB;clear HO_10;have HO_9:=n0_;have BK474:=n1_;have HO482:=n2_;have HB:=n3_;have HO489:=n4_;clear n0_ n1_ n2_ n3_ n4_;clear ho hb hg hat))
   go_roundg k1
   case measure=>have:=HK1.out;omega
   case rel=>exact⟨(y487),(wrap64 (x11_1+1)),(by first|rfl|(simp;done)|(simp[*];done)),H',⟨by have:=HK1.out;omega⟩,⟨by(with_reducible repeat(first|apply Kd.R_alloc|apply Kd.R_drewN|apply Kd.R_drew));exact Kd.R_mono HO_9.out (fun _ hk=>trivial)⟩,⟨by(with_reducible repeat(first|apply Kd.R_alloc|apply Kd.R_drewN|apply Kd.R_drew));exact HO489.out⟩,⟨by(with_reducible repeat(first|refine blk_drewN ?_ _|refine blk_drew ?_|refine blk_alloc ?_ _));exact BK474.out⟩,⟨by repeat(first|(with_reducible first|exact HB.out|apply below_alloc|apply pw_below_drewN|apply below_drew1|refine below_set ?_ GE474.out)|exact HB.out)⟩⟩
end Go.Proofs.Ytkcpanpdipmmmaa.P
namespace Go.Proofs.Ytkcpanpdipmmmaa.P
open Go.RowKit Go.Proofs.YtkcpanpdipmmmaaW.PrintWords Go.Proofs.YtkcpanpdipmmmaaW.PrintLast Go.Proofs.YtkcpanpdipmmmaaW.PrintMore
attribute [local go_sem] max2_int min2_int max_two min_two max_three min_three max_four min_four
def ebbtideref10_Side.l0:Nat→List Int→List Bool→Int→Option (List Bool × Int)
 |0,_,_,_=>none
 |k+1,x8,x10,x11=>if x11<(x8.length:Int) then(if 0≤x11 then(if x10.length<140737488355328 then(ebbtideref10_Side.l0 k x8 (x10 ++ [decide ((rd x8 x11)≥0)]) (wrap64 (x11+1))) else(none)) else(none)) else(some (x10,0))
def ebbtideref10_Side.f (k:Nat) (a0_0:Int) (a0_1:Bool) (l0_2:List (S74)) (l1:List Int) (a2:Int):Option (List Bool × Int):=(ebbtideref08_Levels.f k a0_0 a0_1 l0_2 l1 a2).bind fun bt1047=>(if bt1047.2=0 then(ebbtideref10_Side.l0 k bt1047.1 ([]:List Bool) 0) else(some (([]:List Bool),bt1047.2)))
set_option maxHeartbeats 8000000 in
set_option maxRecDepth 100000 in
theorem ebbtideref10_Side.calls (k:Nat) (a0_0:Int) (a0_1:Bool) (A0_2:Option Addr) (c0_2:Nat) (l0_2:List (S74)) (A1:Option Addr) (c1:Nat) (l1:List Int) (a2:Int) (r1:List Bool) (r2:Int) (w:World) (hr0_2:Kd.C k74 w A0_2 l0_2.length l0_2) (hc0_2:l0_2.length≤c0_2) (hr1:Kd.C (Kd.int .i64) w A1 l1.length l1) (hc1:l1.length≤c1) (h:ebbtideref10_Side.f k a0_0 a0_1 l0_2 l1 a2=some (r1,r2)):
  Calls Try.prog 84 #[.agg #[.int .i64 a0_0, .bool a0_1, .slice A0_2 l0_2.length c0_2], .slice A1 l1.length c1, .int .i64 a2] w fun e w'=> ∃ v0_:Value,e= .returned (.tuple #[v0_, .int .i64 r2])∧Kd.R Kd.bool 4 w' w.heap.size (fun _=>True) v0_ r1∧Below w.heap.size w w':=by
 have hu24:=Try.underlying24
 have HR0_2:=Aside0.mk hr0_2
 have HC0_2:=Aside0.mk hc0_2
 clear hr0_2 hc0_2
 have HR1:=Aside0.mk hr1
 have HC1:=Aside0.mk hc1
 clear hr1 hc1
 have HB:=Aside0.mk (Below.refl w.heap.size w)
 have H:((ebbtideref08_Levels.f k a0_0 a0_1 l0_2 l1 a2).bind fun bt1047=>(if bt1047.2=0 then(ebbtideref10_Side.l0 k bt1047.1 ([]:List Bool) 0) else(some (([]:List Bool),bt1047.2))))=some (r1,r2):=h
 clear h
 replace H:=Option.bind_eq_some_iff.mp H
 obtain⟨⟨t1047,t1050⟩,A40,H⟩:=H
 replace H:(if t1050=0 then(ebbtideref10_Side.l0 k t1047 ([]:List Bool) 0) else(some (([]:List Bool),t1050)))=some (r1,r2):=H
 have A4:=Aside0.mk A40
 clear A40
 by_cases c5:t1050=0
 rotate_left
 ·rw[if_neg c5] at H
  have c5b0:(t1050 == 0)=false:=beq_eq_false_iff_ne.mpr c5
  have c5b1:(t1050 != 0)=true:=bne_iff_ne.mpr c5
  simp only[Option.some.injEq,Prod.mk.injEq] at H
  obtain⟨rfl,rfl⟩:=H
  go_enter Try.func84,Try.ntmps84
  go_wp2_with (first|((with_reducible refine gate_dst (N:=3) rfl ?_);refine box_event ?hg (N:=3) ?hd (cs:= #[.int .i64 a0_0, .bool a0_1, .slice A0_2 l0_2.length c0_2]) (t:=24) ?hr ?_;(case hd=>rfl);(case hg=>rfl);(case hr=>first|(go_simp;done)|(go_simp;rfl));intro gb1046 hg w15 hbox hb;have n0_:=Aside0.mk (below_step (by repeat(first|(with_reducible first|exact HB.out|apply below_alloc|apply pw_below_drewN|apply below_drew1)|exact HB.out)) hb);have n1_:=Aside0.mk (hbox);have n2_:=Aside0.mk ((by rw[hg];exact(below_size (by repeat(first|(with_reducible first|exact HB.out|apply below_alloc|apply pw_below_drewN|apply below_drew1)|exact HB.out))):w.heap.size≤gb1046));have n3_:=Aside0.mk ((by rw[hg];exact(below_size (by repeat(first|(with_reducible first|exact HB.out|apply below_alloc|apply pw_below_drewN|apply below_drew1)|exact HB.out))):w.heap.size≤gb1046));clear HB;have HB:=n0_;have BK1046:=n1_;have GW1046:=n2_;have GE1046:=n3_;clear n0_ n1_ n2_ n3_;clear hb hbox hg;have hcz16_0:w15.cell? ⟨gb1046,0,none⟩=some (.int .i64 a0_0):=(blk_cell BK1046.out 0).trans rfl;have hcz16_1:w15.cell? ⟨gb1046,1,none⟩=some (.bool a0_1):=(blk_cell BK1046.out 1).trans rfl;have hcz16_2:w15.cell? ⟨gb1046,2,none⟩=some (.slice A0_2 l0_2.length c0_2):=(blk_cell BK1046.out 2).trans rfl;have hfz16_0:=blk_frozen BK1046.out 0;have hfz16_1:=blk_frozen BK1046.out 1;have hfz16_2:=blk_frozen BK1046.out 2)|((with_reducible refine gate_callee (f:=54) rfl ?_);refine goesL_ (some 16) rfl rfl Try.func54 (by kernel_rfl) rfl #[.agg #[.int .i64 a0_0, .bool a0_1, .slice A0_2 l0_2.length c0_2], .slice A1 l1.length c1, .int .i64 a2] rfl (by(try simp only[List.map_toArray,List.map_cons,List.map_nil]);first|done|rfl|(simp only[List.length_drop,List.length_take];rfl)) ?_;(with_reducible refine(ebbtideref08_Levels.calls k a0_0 a0_1 _ _ l0_2 _ _ l1 a2 t1047 t1050 _ ?side1 ?side2 ?side3 ?side4 A4.out).mono ?_);(case side1=>repeat(first|exact(Kd.C_below HR0_2.out HB.out)|(with_reducible refine Kd.C_alloc ?_ _)|(with_reducible refine Kd.C_drewN ?_ _)|(with_reducible refine Kd.C_drew ?_)));(case side2=>exact HC0_2.out);(case side3=>repeat(first|exact(Kd.C_below HR1.out HB.out)|(with_reducible refine Kd.C_alloc ?_ _)|(with_reducible refine Kd.C_drewN ?_ _)|(with_reducible refine Kd.C_drew ?_)));(case side4=>exact HC1.out);rintro e w17 ⟨v1048,rfl,ho0,hb⟩;refine⟨_,rfl,?_⟩;have n0_:=Aside0.mk (Kd.R_lower ho0 (below_size (by repeat(first|(with_reducible first|exact HB.out|apply below_alloc|apply pw_below_drewN|apply below_drew1|refine below_set ?_ GE1046.out)|exact HB.out))));have n1_:=Aside0.mk (blk_below (g:=gb1046) (o:= .cells #[.int .i64 a0_0, .bool a0_1, .slice A0_2 l0_2.length c0_2] 24 (0,0)) (by(with_reducible repeat(first|refine blk_drewN ?_ _|refine blk_drew ?_|refine blk_alloc ?_ _));exact BK1046.out) hb);have n2_:=Aside0.mk (below_step (by repeat(first|(with_reducible first|exact HB.out|apply below_alloc|apply pw_below_drewN|apply below_drew1|refine below_set ?_ GE1046.out)|exact HB.out)) hb);clear BK1046;clear HB;have HO1049:=n0_;have BK1046:=n1_;have HB:=n2_;clear n0_ n1_ n2_;(try clear hb);(try clear hb2);(try clear hk);(try clear hi);(try clear ho0)))
  go_ret2
  exact⟨_,by first|rfl|(simp[errW_none,errW_some]<;>rfl)|(simp[*,errW_none,errW_some]<;>rfl),by first|exact Kd.R_nil _ _ _ _ _|exact Kd.N_nil _ _ _ _ _|exact Kd.V_nil _ _ _ _ _|exact Kd.Q_nil _ _ _ _ _|exact Kd.S_nil _ _ _ _ _,by repeat(first|(with_reducible first|exact HB.out|apply below_alloc|apply pw_below_drewN|apply below_drew1|refine below_set ?_ GE1046.out)|exact HB.out)⟩
 rw[if_pos c5] at H
 have c5b0:(t1050 == 0)=true:=beq_iff_eq.mpr c5
 have c5b1:(t1050 != 0)=false:=bne_eq_false_iff_eq.mpr c5
 clear c5
 have H':=Aside0.mk H
 clear H
 go_enter Try.func84,Try.ntmps84
 go_wp2_with (first|((with_reducible refine gate_dst (N:=3) rfl ?_);refine box_event ?hg (N:=3) ?hd (cs:= #[.int .i64 a0_0, .bool a0_1, .slice A0_2 l0_2.length c0_2]) (t:=24) ?hr ?_;(case hd=>rfl);(case hg=>rfl);(case hr=>first|(go_simp;done)|(go_simp;rfl));intro gb1046 hg w6 hbox hb;have n0_:=Aside0.mk (below_step (by repeat(first|(with_reducible first|exact HB.out|apply below_alloc|apply pw_below_drewN|apply below_drew1)|exact HB.out)) hb);have n1_:=Aside0.mk (hbox);have n2_:=Aside0.mk ((by rw[hg];exact(below_size (by repeat(first|(with_reducible first|exact HB.out|apply below_alloc|apply pw_below_drewN|apply below_drew1)|exact HB.out))):w.heap.size≤gb1046));have n3_:=Aside0.mk ((by rw[hg];exact(below_size (by repeat(first|(with_reducible first|exact HB.out|apply below_alloc|apply pw_below_drewN|apply below_drew1)|exact HB.out))):w.heap.size≤gb1046));clear HB;have HB:=n0_;have BK1046:=n1_;have GW1046:=n2_;have GE1046:=n3_;clear n0_ n1_ n2_ n3_;clear hb hbox hg;have hcz7_0:w6.cell? ⟨gb1046,0,none⟩=some (.int .i64 a0_0):=(blk_cell BK1046.out 0).trans rfl;have hcz7_1:w6.cell? ⟨gb1046,1,none⟩=some (.bool a0_1):=(blk_cell BK1046.out 1).trans rfl;have hcz7_2:w6.cell? ⟨gb1046,2,none⟩=some (.slice A0_2 l0_2.length c0_2):=(blk_cell BK1046.out 2).trans rfl;have hfz7_0:=blk_frozen BK1046.out 0;have hfz7_1:=blk_frozen BK1046.out 1;have hfz7_2:=blk_frozen BK1046.out 2)|((with_reducible refine gate_callee (f:=54) rfl ?_);refine goesL_ (some 16) rfl rfl Try.func54 (by kernel_rfl) rfl #[.agg #[.int .i64 a0_0, .bool a0_1, .slice A0_2 l0_2.length c0_2], .slice A1 l1.length c1, .int .i64 a2] rfl (by(try simp only[List.map_toArray,List.map_cons,List.map_nil]);first|done|rfl|(simp only[List.length_drop,List.length_take];rfl)) ?_;(with_reducible refine(ebbtideref08_Levels.calls k a0_0 a0_1 _ _ l0_2 _ _ l1 a2 t1047 t1050 _ ?side1 ?side2 ?side3 ?side4 A4.out).mono ?_);(case side1=>repeat(first|exact(Kd.C_below HR0_2.out HB.out)|(with_reducible refine Kd.C_alloc ?_ _)|(with_reducible refine Kd.C_drewN ?_ _)|(with_reducible refine Kd.C_drew ?_)));(case side2=>exact HC0_2.out);(case side3=>repeat(first|exact(Kd.C_below HR1.out HB.out)|(with_reducible refine Kd.C_alloc ?_ _)|(with_reducible refine Kd.C_drewN ?_ _)|(with_reducible refine Kd.C_drew ?_)));(case side4=>exact HC1.out);rintro e w8 ⟨v1048,rfl,ho0,hb⟩;refine⟨_,rfl,?_⟩;have n0_:=Aside0.mk (Kd.R_lower ho0 (below_size (by repeat(first|(with_reducible first|exact HB.out|apply below_alloc|apply pw_below_drewN|apply below_drew1|refine below_set ?_ GE1046.out)|exact HB.out))));have n1_:=Aside0.mk (blk_below (g:=gb1046) (o:= .cells #[.int .i64 a0_0, .bool a0_1, .slice A0_2 l0_2.length c0_2] 24 (0,0)) (by(with_reducible repeat(first|refine blk_drewN ?_ _|refine blk_drew ?_|refine blk_alloc ?_ _));exact BK1046.out) hb);have n2_:=Aside0.mk (below_step (by repeat(first|(with_reducible first|exact HB.out|apply below_alloc|apply pw_below_drewN|apply below_drew1|refine below_set ?_ GE1046.out)|exact HB.out)) hb);clear BK1046;clear HB;have HO1049:=n0_;have BK1046:=n1_;have HB:=n2_;clear n0_ n1_ n2_;(try clear hb);(try clear hb2);(try clear hk);(try clear hi);(try clear ho0)))
 go_loopg [10,11] k (fun kq v10 v11 w'=> ∃ (x10_1:List Bool) (x11_1:Int),v11= .int .i64 x11_1∧Aside0 (ebbtideref10_Side.l0 kq t1047 x10_1 x11_1=some (r1,r2))∧Aside0 (kq≤k)∧Aside0 (Kd.R (Kd.int .i64) 3 w' w.heap.size (fun _=>True) v1048 t1047)∧Aside0 (Kd.R Kd.bool 4 w' w.heap.size (fun _=>True) v10 x10_1)∧Aside0 (w'.heap[gb1046]? =some (.cells #[.int .i64 a0_0, .bool a0_1,(.slice A0_2 l0_2.length c0_2)] 24 (0,0)))∧Aside0 (Below w.heap.size w w'))
 case atStart=>exact⟨(([]:List Bool)),(0),(by first|rfl|(simp;done)|(simp[*];done)),H',⟨Nat.le_refl _⟩,⟨by(with_reducible repeat(first|apply Kd.R_alloc|apply Kd.R_drewN|apply Kd.R_drew));exact HO1049.out⟩,⟨by first|exact Kd.R_nil _ _ _ _ _|exact Kd.N_nil _ _ _ _ _|exact Kd.V_nil _ _ _ _ _|exact Kd.Q_nil _ _ _ _ _|exact Kd.S_nil _ _ _ _ _⟩,⟨by(with_reducible repeat(first|refine blk_drewN ?_ _|refine blk_drew ?_|refine blk_alloc ?_ _));exact BK1046.out⟩,⟨by repeat(first|(with_reducible first|exact HB.out|apply below_alloc|apply pw_below_drewN|apply below_drew1|refine below_set ?_ GE1046.out)|exact HB.out)⟩⟩
 case round=>
  clear H'
  try clear c1
  try clear p2
  try clear c5
  try clear c5b0
  try clear c5b1
  try clear c8
  try clear hcz7_0
  try clear hcz7_1
  try clear hcz7_2
  try clear hfz7_0
  try clear hfz7_1
  try clear hfz7_2
  obtain⟨x10_1,x11_1,rfl,HA,HK1,HO_8,HO_10,BK1046,HB⟩:=hrel
  cases gk with
  |zero=>exact absurd HA.out (by simp[ebbtideref10_Side.l0])
  |succ k1=>
   have H:=HA.out
   clear HA
   simp only[ebbtideref10_Side.l0] at H
   by_cases c9:x11_1<(t1047.length:Int)
   rotate_left
   ·rw[if_neg c9] at H
    have c9b0:decide (x11_1<(t1047.length:Int))=false:=decide_eq_false c9
    clear c9
    simp only[Option.some.injEq,Prod.mk.injEq] at H
    obtain⟨rfl,rfl⟩:=H
    obtain⟨Ao14,co14,eo14⟩:=Kd.R_slice HO_8.out
    subst eo14
    go_wp2
    go_ret2
    exact⟨_,by first|rfl|(simp[errW_none,errW_some]<;>rfl)|(simp[*,errW_none,errW_some]<;>rfl),by(with_reducible repeat(first|apply Kd.R_alloc|apply Kd.R_drewN|apply Kd.R_drew));exact HO_10.out,by repeat(first|(with_reducible first|exact HB.out|apply below_alloc|apply pw_below_drewN|apply below_drew1|refine below_set ?_ GE1046.out)|exact HB.out)⟩
   rw[if_pos c9] at H
   have c9b0:decide (x11_1<(t1047.length:Int))=true:=decide_eq_true c9
   clear c9
   by_cases c10:0≤x11_1
   rotate_left
   ·rw[if_neg c10] at H
    exact absurd H (by simp)
   rw[if_pos c10] at H
   have c10b0:decide (0≤x11_1)=true:=decide_eq_true c10
   clear c10
   by_cases c11:x10_1.length<140737488355328
   rotate_left
   ·rw[if_neg c11] at H
    exact absurd H (by simp)
   rw[if_pos c11] at H
   have LMc11:=Aside0.mk c11
   clear c11
   obtain⟨y1052,hy1052⟩: ∃ y_:List Bool,y_=(x10_1 ++ [decide ((rd t1047 x11_1)≥0)]):=⟨_,rfl⟩
   replace H:(ebbtideref10_Side.l0 k1 t1047 y1052 (wrap64 (x11_1+1)))=some (r1,r2):=by first|(rw[hy1052];with_reducible exact H)|(have H2_:=(Option.bind_some _ _).symm.trans H;rw[hy1052];with_reducible exact H2_)|(have H2_:=(Option.bind_some _ _).symm.trans H;with_reducible exact H2_)|with_reducible exact H|(rw[hy1052];exact H)|exact H
   have Ny1052:=Aside0.mk hy1052
   clear hy1052
   have H':=Aside0.mk H
   clear H
   obtain⟨Ao12,co12,eo12⟩:=Kd.R_slice HO_8.out
   subst eo12
   have p1051:0≤(x11_1:Int):=of_decide_eq_true (by first|(with_reducible assumption)|assumption)
   have q1051:x11_1<(t1047.length:Int):=of_decide_eq_true (by first|(with_reducible assumption)|assumption)
   obtain⟨ad1051,e1051,hx1051_0⟩:=Kd.at_int (Kd.R_reads' HO_8.out).2.2 x11_1 p1051 q1051
   cases e1051
   replace p1051:=eq_true p1051
   replace q1051:=eq_true q1051
   go_wp2_with (first|((with_reducible refine gate_builtin (b:= .append) (xs:= #[.tmp 28, .tmp 34]) rfl ?_);at_builtin;refine Kd.R_append Kd.bool (w0:=w) w.heap.size rfl (.tmp 28) (.tmp 34) 26 4 (.bool false) 1 rfl Try.underlying26 info4 rfl (by decide) (by omega) u10 x10_1 (decide ((rd t1047 x11_1)≥0)) [.bool (decide ((rd t1047 x11_1)≥0))] (fun _=>True) (fun _=>False) rfl rfl ?aP (fun _ hk=>hk.elim) ?aF ?aO ?aB ?aS ?aL ?_;(case aP=>exact rfl);(case aB=>exact(by repeat(first|(with_reducible first|exact HB.out|apply below_alloc|apply pw_below_drewN|apply below_drew1|refine below_set ?_ GE1046.out)|exact HB.out)));(case aF=>exact(fun _ _=>trivial));(case aO=>exact(by(with_reducible repeat(first|apply Kd.R_alloc|apply Kd.R_drewN|apply Kd.R_drew));exact HO_10.out));(case aS=>exact(below_size (by repeat(first|(with_reducible first|exact HB.out|apply below_alloc|apply pw_below_drewN|apply below_drew1|refine below_set ?_ GE1046.out)|exact HB.out))));(case aL=>have:=LMc11.out;omega);intro v1053 w13 ho hb hg hat;rw[← Ny1052.out] at ho;have n0_:=Aside0.mk (Kd.R_over' (by(with_reducible repeat(first|apply Kd.R_alloc|apply Kd.R_drewN|apply Kd.R_drew));exact HO_8.out) (Kd.R_typed (by(with_reducible repeat(first|apply Kd.R_alloc|apply Kd.R_drewN|apply Kd.R_drew));exact HO_10.out)) (by decide) hg);have n1_:=Aside0.mk (blk_grown (g:=gb1046) (o:= .cells #[.int .i64 a0_0, .bool a0_1, .slice A0_2 l0_2.length c0_2] 24 (0,0)) (by(with_reducible repeat(first|refine blk_drewN ?_ _|refine blk_drew ?_|refine blk_alloc ?_ _));exact BK1046.out) hg (Kd.R_ne HO_10.out BK1046.out (by decide)));have n2_:=Aside0.mk (hb);have n3_:=Aside0.mk (ho);clear HO_8;clear BK1046;clear HB;clear HO_10;have HO_8:=n0_;have BK1046:=n1_;have HB:=n2_;have HO1054:=n3_;clear n0_ n1_ n2_ n3_;clear ho hb hg hat))
   go_roundg k1
   case measure=>have:=HK1.out;omega
   case rel=>exact⟨(y1052),(wrap64 (x11_1+1)),(by first|rfl|(simp;done)|(simp[*];done)),H',⟨by have:=HK1.out;omega⟩,⟨by(with_reducible repeat(first|apply Kd.R_alloc|apply Kd.R_drewN|apply Kd.R_drew));exact HO_8.out⟩,⟨by(with_reducible repeat(first|apply Kd.R_alloc|apply Kd.R_drewN|apply Kd.R_drew));exact HO1054.out⟩,⟨by(with_reducible repeat(first|refine blk_drewN ?_ _|refine blk_drew ?_|refine blk_alloc ?_ _));exact BK1046.out⟩,⟨by repeat(first|(with_reducible first|exact HB.out|apply below_alloc|apply pw_below_drewN|apply below_drew1|refine below_set ?_ GE1046.out)|exact HB.out)⟩⟩
end Go.Proofs.Ytkcpanpdipmmmaa.P
namespace Go.Proofs.Ytkcpanpdipmmmaa.P
open Go.RowKit Go.Proofs.YtkcpanpdipmmmaaW.PrintWords Go.Proofs.YtkcpanpdipmmmaaW.PrintLast Go.Proofs.YtkcpanpdipmmmaaW.PrintMore
attribute [local go_sem] max2_int min2_int max_two min_two max_three min_three max_four min_four
def mincut_takes.l0:Nat→List Bool→Int→List (S74)→Int→Int→Option (Int)
 |0,_,_,_,_,_=>none
 |k+1,x1,x5,x9,x10,x11=>if x11<x10 then(if 0≤x11 then(if x11<(x9.length:Int) then(if 0≤((rd_T74 x9 x11).f0) then(if ((rd_T74 x9 x11).f0)<(x1.length:Int) then(if rdOf false x1 ((rd_T74 x9 x11).f0)=true then(if 0≤((rd_T74 x9 x11).f1) then(if ((rd_T74 x9 x11).f1)<(x1.length:Int) then(if (rdOf false x1 ((rd_T74 x9 x11).f1)=true) then(mincut_takes.l0 k x1 x5 x9 x10 (wrap64 (x11+1))) else(mincut_takes.l0 k x1 (wrap64 (x5+((rd_T74 x9 x11).f2))) x9 x10 (wrap64 (x11+1)))) else(none)) else(none)) else(mincut_takes.l0 k x1 x5 x9 x10 (wrap64 (x11+1)))) else(none)) else(none)) else(none)) else(none)) else(some x5)
def mincut_takes.f (k:Nat) (a0_0:Int) (a0_1:Bool) (l0_2:List (S74)) (l1:List Bool):Option (Int):=mincut_takes.l0 k l1 0 l0_2 (l0_2.length:Int) 0
set_option maxHeartbeats 8000000 in
set_option maxRecDepth 100000 in
theorem mincut_takes.calls (k:Nat) (a0_0:Int) (a0_1:Bool) (A0_2:Option Addr) (c0_2:Nat) (l0_2:List (S74)) (A1:Option Addr) (c1:Nat) (l1:List Bool) (r:Int) (w:World) (hr0_2:Kd.C k74 w A0_2 l0_2.length l0_2) (hc0_2:l0_2.length≤c0_2) (hr1:Kd.C Kd.bool w A1 l1.length l1) (hc1:l1.length≤c1) (h:mincut_takes.f k a0_0 a0_1 l0_2 l1=some r):
  Calls Try.prog 125 #[.agg #[.int .i64 a0_0, .bool a0_1, .slice A0_2 l0_2.length c0_2], .slice A1 l1.length c1] w fun e w'=>e= .returned (.int .i64 r)∧Below w.heap.size w w':=by
 have hu24:=Try.underlying24
 have hu74:=Try.underlying74
 have HR0_2:=Aside0.mk hr0_2
 have HC0_2:=Aside0.mk hc0_2
 clear hr0_2 hc0_2
 have HR1:=Aside0.mk hr1
 have HC1:=Aside0.mk hc1
 clear hr1 hc1
 have HB:=Aside0.mk (Below.refl w.heap.size w)
 have H:(mincut_takes.l0 k l1 0 l0_2 (l0_2.length:Int) 0)=some r:=h
 clear h
 have H':=Aside0.mk H
 clear H
 go_enter Try.func125,Try.ntmps125
 go_wp2_with (first|((with_reducible refine gate_dst (N:=2) rfl ?_);refine box_event ?hg (N:=2) ?hd (cs:= #[.int .i64 a0_0, .bool a0_1, .slice A0_2 l0_2.length c0_2]) (t:=24) ?hr ?_;(case hd=>rfl);(case hg=>rfl);(case hr=>first|(go_simp;done)|(go_simp;rfl));intro gb1032 hg w3 hbox hb;have n0_:=Aside0.mk (below_step (by repeat(first|(with_reducible first|exact HB.out|apply below_alloc|apply pw_below_drewN|apply below_drew1)|exact HB.out)) hb);have n1_:=Aside0.mk (hbox);have n2_:=Aside0.mk ((by rw[hg];exact(below_size (by repeat(first|(with_reducible first|exact HB.out|apply below_alloc|apply pw_below_drewN|apply below_drew1)|exact HB.out))):w.heap.size≤gb1032));have n3_:=Aside0.mk ((by rw[hg];exact(below_size (by repeat(first|(with_reducible first|exact HB.out|apply below_alloc|apply pw_below_drewN|apply below_drew1)|exact HB.out))):w.heap.size≤gb1032));clear HB;have HB:=n0_;have BK1032:=n1_;have GW1032:=n2_;have GE1032:=n3_;clear n0_ n1_ n2_ n3_;clear hb hbox hg;have hcz4_0:w3.cell? ⟨gb1032,0,none⟩=some (.int .i64 a0_0):=(blk_cell BK1032.out 0).trans rfl;have hcz4_1:w3.cell? ⟨gb1032,1,none⟩=some (.bool a0_1):=(blk_cell BK1032.out 1).trans rfl;have hcz4_2:w3.cell? ⟨gb1032,2,none⟩=some (.slice A0_2 l0_2.length c0_2):=(blk_cell BK1032.out 2).trans rfl;have hfz4_0:=blk_frozen BK1032.out 0;have hfz4_1:=blk_frozen BK1032.out 1;have hfz4_2:=blk_frozen BK1032.out 2))
 go_loopg [5,11] k (fun kq v5 v11 w'=> ∃ (x5_1:Int) (x11_1:Int),v5= .int .i64 x5_1∧v11= .int .i64 x11_1∧Aside0 (mincut_takes.l0 kq l1 x5_1 l0_2 (l0_2.length:Int) x11_1=some r)∧Aside0 (kq≤k)∧Aside0 (w'.heap[gb1032]? =some (.cells #[.int .i64 a0_0, .bool a0_1,(.slice A0_2 l0_2.length c0_2)] 24 (0,0)))∧Aside0 (Below w.heap.size w w'))
 case atStart=>exact⟨(0),(0),(by first|rfl|(simp;done)|(simp[*];done)),(by first|rfl|(simp;done)|(simp[*];done)),H',⟨Nat.le_refl _⟩,⟨by(with_reducible repeat(first|refine blk_drewN ?_ _|refine blk_drew ?_|refine blk_alloc ?_ _));exact BK1032.out⟩,⟨by repeat(first|(with_reducible first|exact HB.out|apply below_alloc|apply pw_below_drewN|apply below_drew1|refine below_set ?_ GE1032.out)|exact HB.out)⟩⟩
 case round=>
  clear H'
  try clear c1
  try clear p2
  try clear hcz4_0
  try clear hcz4_1
  try clear hcz4_2
  try clear hfz4_0
  try clear hfz4_1
  try clear hfz4_2
  obtain⟨x5_1,x11_1,rfl,rfl,HA,HK1,BK1032,HB⟩:=hrel
  cases gk with
  |zero=>exact absurd HA.out (by simp[mincut_takes.l0])
  |succ k1=>
   have H:=HA.out
   clear HA
   simp only[mincut_takes.l0] at H
   by_cases c5:x11_1<(l0_2.length:Int)
   rotate_left
   ·rw[if_neg c5] at H
    have c5b0:decide (x11_1<(l0_2.length:Int))=false:=decide_eq_false c5
    clear c5
    obtain rfl:=Option.some.inj H
    go_wp2
    go_ret
    exact⟨by first|rfl|(simp[errW_none,errW_some]<;>rfl)|(simp[*,errW_none,errW_some]<;>rfl),by repeat(first|(with_reducible first|exact HB.out|apply below_alloc|apply pw_below_drewN|apply below_drew1|refine below_set ?_ GE1032.out)|exact HB.out)⟩
   rw[if_pos c5] at H
   have c5b0:decide (x11_1<(l0_2.length:Int))=true:=decide_eq_true c5
   clear c5
   by_cases c6:0≤x11_1
   rotate_left
   ·rw[if_neg c6] at H
    exact absurd H (by simp)
   rw[if_pos c6] at H
   have c6b0:decide (0≤x11_1)=true:=decide_eq_true c6
   clear c6
   by_cases c7:x11_1<(l0_2.length:Int)
   rotate_left
   ·rw[if_neg c7] at H
    exact absurd H (by simp)
   rw[if_pos c7] at H
   have c7b0:decide (x11_1<(l0_2.length:Int))=true:=decide_eq_true c7
   clear c7
   by_cases c8:0≤((rd_T74 l0_2 x11_1).f0)
   rotate_left
   ·rw[if_neg c8] at H
    exact absurd H (by simp)
   rw[if_pos c8] at H
   have c8b0:decide (0≤((rd_T74 l0_2 x11_1).f0))=true:=decide_eq_true c8
   clear c8
   by_cases c9:((rd_T74 l0_2 x11_1).f0)<(l1.length:Int)
   rotate_left
   ·rw[if_neg c9] at H
    exact absurd H (by simp)
   rw[if_pos c9] at H
   have c9b0:decide (((rd_T74 l0_2 x11_1).f0)<(l1.length:Int))=true:=decide_eq_true c9
   clear c9
   obtain⟨bq10,hbq10⟩: ∃ b_:Bool,b_=(rdOf false l1 ((rd_T74 l0_2 x11_1).f0)):=⟨_,rfl⟩
   replace H:(if bq10=true then(if 0≤((rd_T74 l0_2 x11_1).f1) then(if ((rd_T74 l0_2 x11_1).f1)<(l1.length:Int) then(if (rdOf false l1 ((rd_T74 l0_2 x11_1).f1)=true) then(mincut_takes.l0 k1 l1 x5_1 l0_2 (l0_2.length:Int) (wrap64 (x11_1+1))) else(mincut_takes.l0 k1 l1 (wrap64 (x5_1+((rd_T74 l0_2 x11_1).f2))) l0_2 (l0_2.length:Int) (wrap64 (x11_1+1)))) else(none)) else(none)) else(mincut_takes.l0 k1 l1 x5_1 l0_2 (l0_2.length:Int) (wrap64 (x11_1+1))))=some r:=by rw[← hbq10] at H;exact H
   have Nbq10:=Aside0.mk hbq10
   clear hbq10
   by_cases c11:bq10=true
   rotate_left
   ·replace c11:=Bool.eq_false_iff.mpr c11
    subst c11
    have H1:(mincut_takes.l0 k1 l1 x5_1 l0_2 (l0_2.length:Int) (wrap64 (x11_1+1)))=some r:=by rw[if_neg (show ¬ (false=true) by decide)] at H;exact H
    clear H
    have H:=H1
    clear H1
    have H':=Aside0.mk H
    clear H
    have p1033:0≤(x11_1:Int):=of_decide_eq_true (by first|(with_reducible assumption)|assumption)
    have q1033:x11_1<(l0_2.length:Int):=of_decide_eq_true (by first|(with_reducible assumption)|assumption)
    obtain⟨ad1033,e1033,hx1033_0,hx1033_1,hx1033_2,hx1033_3⟩:=at_T74 HR0_2.out x11_1 p1033 q1033
    cases e1033
    replace hx1033_0:=(HB.out.cell (World.block_lt_of_cell? w _ hx1033_0)).trans hx1033_0
    replace hx1033_1:=(HB.out.cell (World.block_lt_of_cell? w _ hx1033_1)).trans hx1033_1
    replace hx1033_2:=(HB.out.cell (World.block_lt_of_cell? w _ hx1033_2)).trans hx1033_2
    replace hx1033_3:=(HB.out.cell (World.block_lt_of_cell? w _ hx1033_3)).trans hx1033_3
    replace p1033:=eq_true p1033
    replace q1033:=eq_true q1033
    go_wp2_with (first|((with_reducible refine gate_dst (N:=7) rfl ?_);refine box_event ?hg (N:=7) ?hd (cs:= #[.int .i64 0, .int .i64 0, .int .i64 0, .int .i64 0]) (t:=74) ?hr ?_;(case hd=>rfl);(case hg=>rfl);(case hr=>first|(go_simp;done)|(go_simp;rfl));intro gb1034 hg w22 hbox hb;have n0_:=Aside0.mk (blk_below (g:=gb1032) (o:= .cells #[.int .i64 a0_0, .bool a0_1, .slice (some ad1033) l0_2.length c0_2] 24 (0,0)) (by(with_reducible repeat(first|refine blk_drewN ?_ _|refine blk_drew ?_|refine blk_alloc ?_ _));exact BK1032.out) hb);have n1_:=Aside0.mk (below_step (by repeat(first|(with_reducible first|exact HB.out|apply below_alloc|apply pw_below_drewN|apply below_drew1|refine below_set ?_ GE1032.out)|exact HB.out)) hb);have n2_:=Aside0.mk (hbox);have n3_:=Aside0.mk ((by rw[hg];exact(below_size (by repeat(first|(with_reducible first|exact HB.out|apply below_alloc|apply pw_below_drewN|apply below_drew1|refine below_set ?_ GE1032.out)|exact HB.out))):w.heap.size≤gb1034));have n4_:=Aside0.mk ((by rw[hg];exact(below_size (by repeat(first|(with_reducible first|exact HB.out|apply below_alloc|apply pw_below_drewN|apply below_drew1|refine below_set ?_ GE1032.out)|exact HB.out))):w.heap.size≤gb1034));have n5_:=Aside0.mk ((by rw[hg];exact Nat.ne_of_lt (blk_lt (g:=gb1032) (o:= .cells #[.int .i64 a0_0, .bool a0_1, .slice (some ad1033) l0_2.length c0_2] 24 (0,0)) (by(with_reducible repeat(first|refine blk_drewN ?_ _|refine blk_drew ?_|refine blk_alloc ?_ _));exact BK1032.out)):gb1032≠gb1034));have n6_:=Aside0.mk ((by rw[hg];exact Nat.ne_of_gt (blk_lt (g:=gb1032) (o:= .cells #[.int .i64 a0_0, .bool a0_1, .slice (some ad1033) l0_2.length c0_2] 24 (0,0)) (by(with_reducible repeat(first|refine blk_drewN ?_ _|refine blk_drew ?_|refine blk_alloc ?_ _));exact BK1032.out)):gb1034≠gb1032));clear BK1032;clear HB;have BK1032:=n0_;have HB:=n1_;have BK1034:=n2_;have GW1034:=n3_;have GE1034:=n4_;have NB1032_1034:=n5_;have NB1034_1032:=n6_;clear n0_ n1_ n2_ n3_ n4_ n5_ n6_;clear hb hbox hg;have hnb23:=NB1034_1032.out;have hnc23:=NB1032_1034.out;have hcz24_0:w22.cell? ⟨gb1034,0,none⟩=some (.int .i64 0):=(blk_cell BK1034.out 0).trans rfl;have hcz24_1:w22.cell? ⟨gb1034,1,none⟩=some (.int .i64 0):=(blk_cell BK1034.out 1).trans rfl;have hcz24_2:w22.cell? ⟨gb1034,2,none⟩=some (.int .i64 0):=(blk_cell BK1034.out 2).trans rfl;have hcz24_3:w22.cell? ⟨gb1034,3,none⟩=some (.int .i64 0):=(blk_cell BK1034.out 3).trans rfl;have hfz24_0:=blk_frozen BK1034.out 0;have hfz24_1:=blk_frozen BK1034.out 1;have hfz24_2:=blk_frozen BK1034.out 2;have hfz24_3:=blk_frozen BK1034.out 3;have p1035:0≤(((rd_T74 l0_2 x11_1).f0):Int):=of_decide_eq_true (by first|(with_reducible assumption)|assumption);have q1035:((rd_T74 l0_2 x11_1).f0)<(l1.length:Int):=of_decide_eq_true (by first|(with_reducible assumption)|assumption);obtain⟨ad1035,e1035,hx1035_0⟩:=Kd.at_bool HR1.out ((rd_T74 l0_2 x11_1).f0) p1035 q1035;(try rw[← Nbq10.out] at hx1035_0);cases e1035;have hn1035_0:ad1035.block≠gb1034:=Nat.ne_of_lt (Nat.lt_of_lt_of_le (by have:=World.block_lt_of_cell? _ _ hx1035_0;first|rwa [add_block] at this|exact this) GW1034.out);have hn1035_1:ad1035.block≠gb1034:=Nat.ne_of_lt (Nat.lt_of_lt_of_le (by have:=World.block_lt_of_cell? _ _ hx1035_0;first|rwa [add_block] at this|exact this) GW1034.out);have hn1035_2:ad1035.block≠gb1034:=Nat.ne_of_lt (Nat.lt_of_lt_of_le (by have:=World.block_lt_of_cell? _ _ hx1035_0;first|rwa [add_block] at this|exact this) GW1034.out);have hn1035_3:ad1035.block≠gb1034:=Nat.ne_of_lt (Nat.lt_of_lt_of_le (by have:=World.block_lt_of_cell? _ _ hx1035_0;first|rwa [add_block] at this|exact this) GW1034.out);replace hx1035_0:=(HB.out.cell (World.block_lt_of_cell? w _ hx1035_0)).trans hx1035_0;replace hx1035_0:=(cell_far (p:=⟨gb1034,0,none⟩) (by first|(rw[add_block];exact hn1035_0)|(show (Addr.add _ _).block≠_;rw[add_block];exact hn1035_0)|exact hn1035_0) (.int .i64 ((rd_T74 l0_2 x11_1).f0))).trans hx1035_0;replace hx1035_0:=(cell_far (p:=⟨gb1034,1,none⟩) (by first|(rw[add_block];exact hn1035_1)|(show (Addr.add _ _).block≠_;rw[add_block];exact hn1035_1)|exact hn1035_1) (.int .i64 ((rd_T74 l0_2 x11_1).f1))).trans hx1035_0;replace hx1035_0:=(cell_far (p:=⟨gb1034,2,none⟩) (by first|(rw[add_block];exact hn1035_2)|(show (Addr.add _ _).block≠_;rw[add_block];exact hn1035_2)|exact hn1035_2) (.int .i64 ((rd_T74 l0_2 x11_1).f2))).trans hx1035_0;replace hx1035_0:=(cell_far (p:=⟨gb1034,3,none⟩) (by first|(rw[add_block];exact hn1035_3)|(show (Addr.add _ _).block≠_;rw[add_block];exact hn1035_3)|exact hn1035_3) (.int .i64 ((rd_T74 l0_2 x11_1).f3))).trans hx1035_0;clear hn1035_0;clear hn1035_1;clear hn1035_2;clear hn1035_3;replace p1035:=eq_true p1035;replace q1035:=eq_true q1035))
    go_roundg k1
    case measure=>have:=HK1.out;omega
    case rel=>exact⟨(x5_1),(wrap64 (x11_1+1)),(by first|rfl|(simp;done)|(simp[*];done)),(by first|rfl|(simp;done)|(simp[*];done)),H',⟨by have:=HK1.out;omega⟩,⟨by(with_reducible repeat(first|refine blk_drewN ?_ _|refine blk_drew ?_|refine blk_alloc ?_ _));refine blk_far ?_ NB1032_1034.out _;(with_reducible repeat(first|refine blk_drewN ?_ _|refine blk_drew ?_|refine blk_alloc ?_ _));refine blk_far ?_ NB1032_1034.out _;(with_reducible repeat(first|refine blk_drewN ?_ _|refine blk_drew ?_|refine blk_alloc ?_ _));refine blk_far ?_ NB1032_1034.out _;(with_reducible repeat(first|refine blk_drewN ?_ _|refine blk_drew ?_|refine blk_alloc ?_ _));refine blk_far ?_ NB1032_1034.out _;(with_reducible repeat(first|refine blk_drewN ?_ _|refine blk_drew ?_|refine blk_alloc ?_ _));exact BK1032.out⟩,⟨by repeat(first|(with_reducible first|exact HB.out|apply below_alloc|apply pw_below_drewN|apply below_drew1|refine below_set ?_ GE1032.out|refine below_set ?_ GE1034.out)|exact HB.out)⟩⟩
   subst c11
   have H1:(if 0≤((rd_T74 l0_2 x11_1).f1) then(if ((rd_T74 l0_2 x11_1).f1)<(l1.length:Int) then(if (rdOf false l1 ((rd_T74 l0_2 x11_1).f1)=true) then(mincut_takes.l0 k1 l1 x5_1 l0_2 (l0_2.length:Int) (wrap64 (x11_1+1))) else(mincut_takes.l0 k1 l1 (wrap64 (x5_1+((rd_T74 l0_2 x11_1).f2))) l0_2 (l0_2.length:Int) (wrap64 (x11_1+1)))) else(none)) else(none))=some r:=by first|(rw[if_pos rfl] at H;exact H)|(rw[if_pos trivial] at H;exact H)
   clear H
   have H:=H1
   clear H1
   by_cases c12:0≤((rd_T74 l0_2 x11_1).f1)
   rotate_left
   ·rw[if_neg c12] at H
    exact absurd H (by simp)
   rw[if_pos c12] at H
   have c12b0:decide (0≤((rd_T74 l0_2 x11_1).f1))=true:=decide_eq_true c12
   clear c12
   by_cases c13:((rd_T74 l0_2 x11_1).f1)<(l1.length:Int)
   rotate_left
   ·rw[if_neg c13] at H
    exact absurd H (by simp)
   rw[if_pos c13] at H
   have c13b0:decide (((rd_T74 l0_2 x11_1).f1)<(l1.length:Int))=true:=decide_eq_true c13
   clear c13
   obtain⟨bq14,hbq14⟩: ∃ b_:Bool,b_=(rdOf false l1 ((rd_T74 l0_2 x11_1).f1)):=⟨_,rfl⟩
   replace H:(if (bq14=true) then(mincut_takes.l0 k1 l1 x5_1 l0_2 (l0_2.length:Int) (wrap64 (x11_1+1))) else(mincut_takes.l0 k1 l1 (wrap64 (x5_1+((rd_T74 l0_2 x11_1).f2))) l0_2 (l0_2.length:Int) (wrap64 (x11_1+1))))=some r:=by rw[← hbq14] at H;exact H
   have Nbq14:=Aside0.mk hbq14
   clear hbq14
   by_cases c15:(bq14=true)
   ·subst c15
    have H1:(mincut_takes.l0 k1 l1 x5_1 l0_2 (l0_2.length:Int) (wrap64 (x11_1+1)))=some r:=by first|(rw[if_pos rfl] at H;exact H)|(rw[if_pos trivial] at H;exact H)
    clear H
    have H:=H1
    clear H1
    have H':=Aside0.mk H
    clear H
    have p1033:0≤(x11_1:Int):=of_decide_eq_true (by first|(with_reducible assumption)|assumption)
    have q1033:x11_1<(l0_2.length:Int):=of_decide_eq_true (by first|(with_reducible assumption)|assumption)
    obtain⟨ad1033,e1033,hx1033_0,hx1033_1,hx1033_2,hx1033_3⟩:=at_T74 HR0_2.out x11_1 p1033 q1033
    cases e1033
    replace hx1033_0:=(HB.out.cell (World.block_lt_of_cell? w _ hx1033_0)).trans hx1033_0
    replace hx1033_1:=(HB.out.cell (World.block_lt_of_cell? w _ hx1033_1)).trans hx1033_1
    replace hx1033_2:=(HB.out.cell (World.block_lt_of_cell? w _ hx1033_2)).trans hx1033_2
    replace hx1033_3:=(HB.out.cell (World.block_lt_of_cell? w _ hx1033_3)).trans hx1033_3
    replace p1033:=eq_true p1033
    replace q1033:=eq_true q1033
    go_wp2_with (first|((with_reducible refine gate_dst (N:=7) rfl ?_);refine box_event ?hg (N:=7) ?hd (cs:= #[.int .i64 0, .int .i64 0, .int .i64 0, .int .i64 0]) (t:=74) ?hr ?_;(case hd=>rfl);(case hg=>rfl);(case hr=>first|(go_simp;done)|(go_simp;rfl));intro gb1034 hg w16 hbox hb;have n0_:=Aside0.mk (blk_below (g:=gb1032) (o:= .cells #[.int .i64 a0_0, .bool a0_1, .slice (some ad1033) l0_2.length c0_2] 24 (0,0)) (by(with_reducible repeat(first|refine blk_drewN ?_ _|refine blk_drew ?_|refine blk_alloc ?_ _));exact BK1032.out) hb);have n1_:=Aside0.mk (below_step (by repeat(first|(with_reducible first|exact HB.out|apply below_alloc|apply pw_below_drewN|apply below_drew1|refine below_set ?_ GE1032.out)|exact HB.out)) hb);have n2_:=Aside0.mk (hbox);have n3_:=Aside0.mk ((by rw[hg];exact(below_size (by repeat(first|(with_reducible first|exact HB.out|apply below_alloc|apply pw_below_drewN|apply below_drew1|refine below_set ?_ GE1032.out)|exact HB.out))):w.heap.size≤gb1034));have n4_:=Aside0.mk ((by rw[hg];exact(below_size (by repeat(first|(with_reducible first|exact HB.out|apply below_alloc|apply pw_below_drewN|apply below_drew1|refine below_set ?_ GE1032.out)|exact HB.out))):w.heap.size≤gb1034));have n5_:=Aside0.mk ((by rw[hg];exact Nat.ne_of_lt (blk_lt (g:=gb1032) (o:= .cells #[.int .i64 a0_0, .bool a0_1, .slice (some ad1033) l0_2.length c0_2] 24 (0,0)) (by(with_reducible repeat(first|refine blk_drewN ?_ _|refine blk_drew ?_|refine blk_alloc ?_ _));exact BK1032.out)):gb1032≠gb1034));have n6_:=Aside0.mk ((by rw[hg];exact Nat.ne_of_gt (blk_lt (g:=gb1032) (o:= .cells #[.int .i64 a0_0, .bool a0_1, .slice (some ad1033) l0_2.length c0_2] 24 (0,0)) (by(with_reducible repeat(first|refine blk_drewN ?_ _|refine blk_drew ?_|refine blk_alloc ?_ _));exact BK1032.out)):gb1034≠gb1032));clear BK1032;clear HB;have BK1032:=n0_;have HB:=n1_;have BK1034:=n2_;have GW1034:=n3_;have GE1034:=n4_;have NB1032_1034:=n5_;have NB1034_1032:=n6_;clear n0_ n1_ n2_ n3_ n4_ n5_ n6_;clear hb hbox hg;have hnb17:=NB1034_1032.out;have hnc17:=NB1032_1034.out;have hcz18_0:w16.cell? ⟨gb1034,0,none⟩=some (.int .i64 0):=(blk_cell BK1034.out 0).trans rfl;have hcz18_1:w16.cell? ⟨gb1034,1,none⟩=some (.int .i64 0):=(blk_cell BK1034.out 1).trans rfl;have hcz18_2:w16.cell? ⟨gb1034,2,none⟩=some (.int .i64 0):=(blk_cell BK1034.out 2).trans rfl;have hcz18_3:w16.cell? ⟨gb1034,3,none⟩=some (.int .i64 0):=(blk_cell BK1034.out 3).trans rfl;have hfz18_0:=blk_frozen BK1034.out 0;have hfz18_1:=blk_frozen BK1034.out 1;have hfz18_2:=blk_frozen BK1034.out 2;have hfz18_3:=blk_frozen BK1034.out 3;have p1035:0≤(((rd_T74 l0_2 x11_1).f0):Int):=of_decide_eq_true (by first|(with_reducible assumption)|assumption);have q1035:((rd_T74 l0_2 x11_1).f0)<(l1.length:Int):=of_decide_eq_true (by first|(with_reducible assumption)|assumption);obtain⟨ad1035,e1035,hx1035_0⟩:=Kd.at_bool HR1.out ((rd_T74 l0_2 x11_1).f0) p1035 q1035;(try rw[← Nbq10.out] at hx1035_0);(try rw[← Nbq14.out] at hx1035_0);cases e1035;have hn1035_0:ad1035.block≠gb1034:=Nat.ne_of_lt (Nat.lt_of_lt_of_le (by have:=World.block_lt_of_cell? _ _ hx1035_0;first|rwa [add_block] at this|exact this) GW1034.out);have hn1035_1:ad1035.block≠gb1034:=Nat.ne_of_lt (Nat.lt_of_lt_of_le (by have:=World.block_lt_of_cell? _ _ hx1035_0;first|rwa [add_block] at this|exact this) GW1034.out);have hn1035_2:ad1035.block≠gb1034:=Nat.ne_of_lt (Nat.lt_of_lt_of_le (by have:=World.block_lt_of_cell? _ _ hx1035_0;first|rwa [add_block] at this|exact this) GW1034.out);have hn1035_3:ad1035.block≠gb1034:=Nat.ne_of_lt (Nat.lt_of_lt_of_le (by have:=World.block_lt_of_cell? _ _ hx1035_0;first|rwa [add_block] at this|exact this) GW1034.out);replace hx1035_0:=(HB.out.cell (World.block_lt_of_cell? w _ hx1035_0)).trans hx1035_0;replace hx1035_0:=(cell_far (p:=⟨gb1034,0,none⟩) (by first|(rw[add_block];exact hn1035_0)|(show (Addr.add _ _).block≠_;rw[add_block];exact hn1035_0)|exact hn1035_0) (.int .i64 ((rd_T74 l0_2 x11_1).f0))).trans hx1035_0;replace hx1035_0:=(cell_far (p:=⟨gb1034,1,none⟩) (by first|(rw[add_block];exact hn1035_1)|(show (Addr.add _ _).block≠_;rw[add_block];exact hn1035_1)|exact hn1035_1) (.int .i64 ((rd_T74 l0_2 x11_1).f1))).trans hx1035_0;replace hx1035_0:=(cell_far (p:=⟨gb1034,2,none⟩) (by first|(rw[add_block];exact hn1035_2)|(show (Addr.add _ _).block≠_;rw[add_block];exact hn1035_2)|exact hn1035_2) (.int .i64 ((rd_T74 l0_2 x11_1).f2))).trans hx1035_0;replace hx1035_0:=(cell_far (p:=⟨gb1034,3,none⟩) (by first|(rw[add_block];exact hn1035_3)|(show (Addr.add _ _).block≠_;rw[add_block];exact hn1035_3)|exact hn1035_3) (.int .i64 ((rd_T74 l0_2 x11_1).f3))).trans hx1035_0;clear hn1035_0;clear hn1035_1;clear hn1035_2;clear hn1035_3;replace p1035:=eq_true p1035;replace q1035:=eq_true q1035;have p1036:0≤(((rd_T74 l0_2 x11_1).f1):Int):=of_decide_eq_true (by first|(with_reducible assumption)|assumption);have q1036:((rd_T74 l0_2 x11_1).f1)<(l1.length:Int):=of_decide_eq_true (by first|(with_reducible assumption)|assumption);obtain⟨ad1036,e1036,hx1036_0⟩:=Kd.at_bool HR1.out ((rd_T74 l0_2 x11_1).f1) p1036 q1036;(try rw[← Nbq10.out] at hx1036_0);(try rw[← Nbq14.out] at hx1036_0);obtain rfl:ad1035=ad1036:=(by injection e1036);have hn1036_0:ad1035.block≠gb1034:=Nat.ne_of_lt (Nat.lt_of_lt_of_le (by have:=World.block_lt_of_cell? _ _ hx1036_0;first|rwa [add_block] at this|exact this) GW1034.out);have hn1036_1:ad1035.block≠gb1034:=Nat.ne_of_lt (Nat.lt_of_lt_of_le (by have:=World.block_lt_of_cell? _ _ hx1036_0;first|rwa [add_block] at this|exact this) GW1034.out);have hn1036_2:ad1035.block≠gb1034:=Nat.ne_of_lt (Nat.lt_of_lt_of_le (by have:=World.block_lt_of_cell? _ _ hx1036_0;first|rwa [add_block] at this|exact this) GW1034.out);have hn1036_3:ad1035.block≠gb1034:=Nat.ne_of_lt (Nat.lt_of_lt_of_le (by have:=World.block_lt_of_cell? _ _ hx1036_0;first|rwa [add_block] at this|exact this) GW1034.out);replace hx1036_0:=(HB.out.cell (World.block_lt_of_cell? w _ hx1036_0)).trans hx1036_0;replace hx1036_0:=(cell_far (p:=⟨gb1034,0,none⟩) (by first|(rw[add_block];exact hn1036_0)|(show (Addr.add _ _).block≠_;rw[add_block];exact hn1036_0)|exact hn1036_0) (.int .i64 ((rd_T74 l0_2 x11_1).f0))).trans hx1036_0;replace hx1036_0:=(cell_far (p:=⟨gb1034,1,none⟩) (by first|(rw[add_block];exact hn1036_1)|(show (Addr.add _ _).block≠_;rw[add_block];exact hn1036_1)|exact hn1036_1) (.int .i64 ((rd_T74 l0_2 x11_1).f1))).trans hx1036_0;replace hx1036_0:=(cell_far (p:=⟨gb1034,2,none⟩) (by first|(rw[add_block];exact hn1036_2)|(show (Addr.add _ _).block≠_;rw[add_block];exact hn1036_2)|exact hn1036_2) (.int .i64 ((rd_T74 l0_2 x11_1).f2))).trans hx1036_0;replace hx1036_0:=(cell_far (p:=⟨gb1034,3,none⟩) (by first|(rw[add_block];exact hn1036_3)|(show (Addr.add _ _).block≠_;rw[add_block];exact hn1036_3)|exact hn1036_3) (.int .i64 ((rd_T74 l0_2 x11_1).f3))).trans hx1036_0;clear hn1036_0;clear hn1036_1;clear hn1036_2;clear hn1036_3;replace p1036:=eq_true p1036;replace q1036:=eq_true q1036))
    go_roundg k1
    case measure=>have:=HK1.out;omega
    case rel=>exact⟨(x5_1),(wrap64 (x11_1+1)),(by first|rfl|(simp;done)|(simp[*];done)),(by first|rfl|(simp;done)|(simp[*];done)),H',⟨by have:=HK1.out;omega⟩,⟨by(with_reducible repeat(first|refine blk_drewN ?_ _|refine blk_drew ?_|refine blk_alloc ?_ _));refine blk_far ?_ NB1032_1034.out _;(with_reducible repeat(first|refine blk_drewN ?_ _|refine blk_drew ?_|refine blk_alloc ?_ _));refine blk_far ?_ NB1032_1034.out _;(with_reducible repeat(first|refine blk_drewN ?_ _|refine blk_drew ?_|refine blk_alloc ?_ _));refine blk_far ?_ NB1032_1034.out _;(with_reducible repeat(first|refine blk_drewN ?_ _|refine blk_drew ?_|refine blk_alloc ?_ _));refine blk_far ?_ NB1032_1034.out _;(with_reducible repeat(first|refine blk_drewN ?_ _|refine blk_drew ?_|refine blk_alloc ?_ _));exact BK1032.out⟩,⟨by repeat(first|(with_reducible first|exact HB.out|apply below_alloc|apply pw_below_drewN|apply below_drew1|refine below_set ?_ GE1032.out|refine below_set ?_ GE1034.out)|exact HB.out)⟩⟩
   replace c15:=Bool.eq_false_iff.mpr c15
   subst c15
   have H1:(mincut_takes.l0 k1 l1 (wrap64 (x5_1+((rd_T74 l0_2 x11_1).f2))) l0_2 (l0_2.length:Int) (wrap64 (x11_1+1)))=some r:=by rw[if_neg (show ¬ (false=true) by decide)] at H;exact H
   clear H
   have H:=H1
   clear H1
   have H':=Aside0.mk H
   clear H
   have p1033:0≤(x11_1:Int):=of_decide_eq_true (by first|(with_reducible assumption)|assumption)
   have q1033:x11_1<(l0_2.length:Int):=of_decide_eq_true (by first|(with_reducible assumption)|assumption)
   obtain⟨ad1033,e1033,hx1033_0,hx1033_1,hx1033_2,hx1033_3⟩:=at_T74 HR0_2.out x11_1 p1033 q1033
   cases e1033
   replace hx1033_0:=(HB.out.cell (World.block_lt_of_cell? w _ hx1033_0)).trans hx1033_0
   replace hx1033_1:=(HB.out.cell (World.block_lt_of_cell? w _ hx1033_1)).trans hx1033_1
   replace hx1033_2:=(HB.out.cell (World.block_lt_of_cell? w _ hx1033_2)).trans hx1033_2
   replace hx1033_3:=(HB.out.cell (World.block_lt_of_cell? w _ hx1033_3)).trans hx1033_3
   replace p1033:=eq_true p1033
   replace q1033:=eq_true q1033
   go_wp2_with (first|((with_reducible refine gate_dst (N:=7) rfl ?_);refine box_event ?hg (N:=7) ?hd (cs:= #[.int .i64 0, .int .i64 0, .int .i64 0, .int .i64 0]) (t:=74) ?hr ?_;(case hd=>rfl);(case hg=>rfl);(case hr=>first|(go_simp;done)|(go_simp;rfl));intro gb1034 hg w19 hbox hb;have n0_:=Aside0.mk (blk_below (g:=gb1032) (o:= .cells #[.int .i64 a0_0, .bool a0_1, .slice (some ad1033) l0_2.length c0_2] 24 (0,0)) (by(with_reducible repeat(first|refine blk_drewN ?_ _|refine blk_drew ?_|refine blk_alloc ?_ _));exact BK1032.out) hb);have n1_:=Aside0.mk (below_step (by repeat(first|(with_reducible first|exact HB.out|apply below_alloc|apply pw_below_drewN|apply below_drew1|refine below_set ?_ GE1032.out)|exact HB.out)) hb);have n2_:=Aside0.mk (hbox);have n3_:=Aside0.mk ((by rw[hg];exact(below_size (by repeat(first|(with_reducible first|exact HB.out|apply below_alloc|apply pw_below_drewN|apply below_drew1|refine below_set ?_ GE1032.out)|exact HB.out))):w.heap.size≤gb1034));have n4_:=Aside0.mk ((by rw[hg];exact(below_size (by repeat(first|(with_reducible first|exact HB.out|apply below_alloc|apply pw_below_drewN|apply below_drew1|refine below_set ?_ GE1032.out)|exact HB.out))):w.heap.size≤gb1034));have n5_:=Aside0.mk ((by rw[hg];exact Nat.ne_of_lt (blk_lt (g:=gb1032) (o:= .cells #[.int .i64 a0_0, .bool a0_1, .slice (some ad1033) l0_2.length c0_2] 24 (0,0)) (by(with_reducible repeat(first|refine blk_drewN ?_ _|refine blk_drew ?_|refine blk_alloc ?_ _));exact BK1032.out)):gb1032≠gb1034));have n6_:=Aside0.mk ((by rw[hg];exact Nat.ne_of_gt (blk_lt (g:=gb1032) (o:= .cells #[.int .i64 a0_0, .bool a0_1, .slice (some ad1033) l0_2.length c0_2] 24 (0,0)) (by(with_reducible repeat(first|refine blk_drewN ?_ _|refine blk_drew ?_|refine blk_alloc ?_ _));exact BK1032.out)):gb1034≠gb1032));clear BK1032;clear HB;have BK1032:=n0_;have HB:=n1_;have BK1034:=n2_;have GW1034:=n3_;have GE1034:=n4_;have NB1032_1034:=n5_;have NB1034_1032:=n6_;clear n0_ n1_ n2_ n3_ n4_ n5_ n6_;clear hb hbox hg;have hnb20:=NB1034_1032.out;have hnc20:=NB1032_1034.out;have hcz21_0:w19.cell? ⟨gb1034,0,none⟩=some (.int .i64 0):=(blk_cell BK1034.out 0).trans rfl;have hcz21_1:w19.cell? ⟨gb1034,1,none⟩=some (.int .i64 0):=(blk_cell BK1034.out 1).trans rfl;have hcz21_2:w19.cell? ⟨gb1034,2,none⟩=some (.int .i64 0):=(blk_cell BK1034.out 2).trans rfl;have hcz21_3:w19.cell? ⟨gb1034,3,none⟩=some (.int .i64 0):=(blk_cell BK1034.out 3).trans rfl;have hfz21_0:=blk_frozen BK1034.out 0;have hfz21_1:=blk_frozen BK1034.out 1;have hfz21_2:=blk_frozen BK1034.out 2;have hfz21_3:=blk_frozen BK1034.out 3;have p1035:0≤(((rd_T74 l0_2 x11_1).f0):Int):=of_decide_eq_true (by first|(with_reducible assumption)|assumption);have q1035:((rd_T74 l0_2 x11_1).f0)<(l1.length:Int):=of_decide_eq_true (by first|(with_reducible assumption)|assumption);obtain⟨ad1035,e1035,hx1035_0⟩:=Kd.at_bool HR1.out ((rd_T74 l0_2 x11_1).f0) p1035 q1035;(try rw[← Nbq10.out] at hx1035_0);(try rw[← Nbq14.out] at hx1035_0);cases e1035;have hn1035_0:ad1035.block≠gb1034:=Nat.ne_of_lt (Nat.lt_of_lt_of_le (by have:=World.block_lt_of_cell? _ _ hx1035_0;first|rwa [add_block] at this|exact this) GW1034.out);have hn1035_1:ad1035.block≠gb1034:=Nat.ne_of_lt (Nat.lt_of_lt_of_le (by have:=World.block_lt_of_cell? _ _ hx1035_0;first|rwa [add_block] at this|exact this) GW1034.out);have hn1035_2:ad1035.block≠gb1034:=Nat.ne_of_lt (Nat.lt_of_lt_of_le (by have:=World.block_lt_of_cell? _ _ hx1035_0;first|rwa [add_block] at this|exact this) GW1034.out);have hn1035_3:ad1035.block≠gb1034:=Nat.ne_of_lt (Nat.lt_of_lt_of_le (by have:=World.block_lt_of_cell? _ _ hx1035_0;first|rwa [add_block] at this|exact this) GW1034.out);replace hx1035_0:=(HB.out.cell (World.block_lt_of_cell? w _ hx1035_0)).trans hx1035_0;replace hx1035_0:=(cell_far (p:=⟨gb1034,0,none⟩) (by first|(rw[add_block];exact hn1035_0)|(show (Addr.add _ _).block≠_;rw[add_block];exact hn1035_0)|exact hn1035_0) (.int .i64 ((rd_T74 l0_2 x11_1).f0))).trans hx1035_0;replace hx1035_0:=(cell_far (p:=⟨gb1034,1,none⟩) (by first|(rw[add_block];exact hn1035_1)|(show (Addr.add _ _).block≠_;rw[add_block];exact hn1035_1)|exact hn1035_1) (.int .i64 ((rd_T74 l0_2 x11_1).f1))).trans hx1035_0;replace hx1035_0:=(cell_far (p:=⟨gb1034,2,none⟩) (by first|(rw[add_block];exact hn1035_2)|(show (Addr.add _ _).block≠_;rw[add_block];exact hn1035_2)|exact hn1035_2) (.int .i64 ((rd_T74 l0_2 x11_1).f2))).trans hx1035_0;replace hx1035_0:=(cell_far (p:=⟨gb1034,3,none⟩) (by first|(rw[add_block];exact hn1035_3)|(show (Addr.add _ _).block≠_;rw[add_block];exact hn1035_3)|exact hn1035_3) (.int .i64 ((rd_T74 l0_2 x11_1).f3))).trans hx1035_0;clear hn1035_0;clear hn1035_1;clear hn1035_2;clear hn1035_3;replace p1035:=eq_true p1035;replace q1035:=eq_true q1035;have p1036:0≤(((rd_T74 l0_2 x11_1).f1):Int):=of_decide_eq_true (by first|(with_reducible assumption)|assumption);have q1036:((rd_T74 l0_2 x11_1).f1)<(l1.length:Int):=of_decide_eq_true (by first|(with_reducible assumption)|assumption);obtain⟨ad1036,e1036,hx1036_0⟩:=Kd.at_bool HR1.out ((rd_T74 l0_2 x11_1).f1) p1036 q1036;(try rw[← Nbq10.out] at hx1036_0);(try rw[← Nbq14.out] at hx1036_0);obtain rfl:ad1035=ad1036:=(by injection e1036);have hn1036_0:ad1035.block≠gb1034:=Nat.ne_of_lt (Nat.lt_of_lt_of_le (by have:=World.block_lt_of_cell? _ _ hx1036_0;first|rwa [add_block] at this|exact this) GW1034.out);have hn1036_1:ad1035.block≠gb1034:=Nat.ne_of_lt (Nat.lt_of_lt_of_le (by have:=World.block_lt_of_cell? _ _ hx1036_0;first|rwa [add_block] at this|exact this) GW1034.out);have hn1036_2:ad1035.block≠gb1034:=Nat.ne_of_lt (Nat.lt_of_lt_of_le (by have:=World.block_lt_of_cell? _ _ hx1036_0;first|rwa [add_block] at this|exact this) GW1034.out);have hn1036_3:ad1035.block≠gb1034:=Nat.ne_of_lt (Nat.lt_of_lt_of_le (by have:=World.block_lt_of_cell? _ _ hx1036_0;first|rwa [add_block] at this|exact this) GW1034.out);replace hx1036_0:=(HB.out.cell (World.block_lt_of_cell? w _ hx1036_0)).trans hx1036_0;replace hx1036_0:=(cell_far (p:=⟨gb1034,0,none⟩) (by first|(rw[add_block];exact hn1036_0)|(show (Addr.add _ _).block≠_;rw[add_block];exact hn1036_0)|exact hn1036_0) (.int .i64 ((rd_T74 l0_2 x11_1).f0))).trans hx1036_0;replace hx1036_0:=(cell_far (p:=⟨gb1034,1,none⟩) (by first|(rw[add_block];exact hn1036_1)|(show (Addr.add _ _).block≠_;rw[add_block];exact hn1036_1)|exact hn1036_1) (.int .i64 ((rd_T74 l0_2 x11_1).f1))).trans hx1036_0;replace hx1036_0:=(cell_far (p:=⟨gb1034,2,none⟩) (by first|(rw[add_block];exact hn1036_2)|(show (Addr.add _ _).block≠_;rw[add_block];exact hn1036_2)|exact hn1036_2) (.int .i64 ((rd_T74 l0_2 x11_1).f2))).trans hx1036_0;replace hx1036_0:=(cell_far (p:=⟨gb1034,3,none⟩) (by first|(rw[add_block];exact hn1036_3)|(show (Addr.add _ _).block≠_;rw[add_block];exact hn1036_3)|exact hn1036_3) (.int .i64 ((rd_T74 l0_2 x11_1).f3))).trans hx1036_0;clear hn1036_0;clear hn1036_1;clear hn1036_2;clear hn1036_3;replace p1036:=eq_true p1036;replace q1036:=eq_true q1036))
   go_roundg k1
   case measure=>have:=HK1.out;omega
   case rel=>exact⟨(wrap64 (x5_1+((rd_T74 l0_2 x11_1).f2))),(wrap64 (x11_1+1)),(by first|rfl|(simp;done)|(simp[*];done)),(by first|rfl|(simp;done)|(simp[*];done)),H',⟨by have:=HK1.out;omega⟩,⟨by(with_reducible repeat(first|refine blk_drewN ?_ _|refine blk_drew ?_|refine blk_alloc ?_ _));refine blk_far ?_ NB1032_1034.out _;(with_reducible repeat(first|refine blk_drewN ?_ _|refine blk_drew ?_|refine blk_alloc ?_ _));refine blk_far ?_ NB1032_1034.out _;(with_reducible repeat(first|refine blk_drewN ?_ _|refine blk_drew ?_|refine blk_alloc ?_ _));refine blk_far ?_ NB1032_1034.out _;(with_reducible repeat(first|refine blk_drewN ?_ _|refine blk_drew ?_|refine blk_alloc ?_ _));refine blk_far ?_ NB1032_1034.out _;(with_reducible repeat(first|refine blk_drewN ?_ _|refine blk_drew ?_|refine blk_alloc ?_ _));exact BK1032.out⟩,⟨by repeat(first|(with_reducible first|exact HB.out|apply below_alloc|apply pw_below_drewN|apply below_drew1|refine below_set ?_ GE1032.out|refine below_set ?_ GE1034.out)|exact HB.out)⟩⟩
end Go.Proofs.Ytkcpanpdipmmmaa.P
