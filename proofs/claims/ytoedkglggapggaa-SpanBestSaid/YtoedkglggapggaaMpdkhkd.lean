/- What the law's row needs of these texts, taken out of them by wip/tool/mini.py: QByLaw QSpanStep QSpanRun QQueLaw QRawMem QQueGrow QLeast QReverseWalk QLevelDef QFarsWalk QFastWalk QFlowWalk P34 QEndsLaw QRightOf QEndsRight QFillMem QPhaseWalk QFillWalk QSpanFill P25 P26 P27 P28 P29 P35 P36 P40 P42 P43 P64 P59 P60. -/
import Derived.Test.YtoedkglggapggaaMlnmamj
import Derived.RegionTactic
import Derived.ChangeAlike
import Derived.BigRegion
import Derived.LoopTactic
import Derived.WalkKit
import Derived.WalkMore
import Derived.Test.YtoedkglggapggaaMeddike
import Derived.Deep.RegionHeld3
import Derived.Deep.RegionLaw
import Derived.Deep.AppendLies
import Derived.IntWalk
import Derived.Laws.IdiomCopy
import Derived.Test.YtoedkglggapggaaProg
import Derived.Test.YtoedkglggapggaaMapjdha
import Derived.Laws.CopyOwn
import Derived.Deep.DeepCutAuto
import Derived.Lib.SliceRun
set_option linter.unusedVariables false
set_option linter.unusedSimpArgs false
open Go.RowKit Go.Proofs.YtoedkglggapggaaW.PrintWords Go.Proofs.YtoedkglggapggaaW.PrintLast Go.Proofs.YtoedkglggapggaaW.PrintMore
namespace Go.Proofs.Ytoedkglggapggaa
namespace H
open P Q
structure Par (l:List S50) (F:List Int) (n s:Nat) (x:Rch) (rk:Nat→Nat) (T:Nat):Prop where
 lt: ∀ v,rk v<T
 is_: ∀ v,v<n→x.I.getD v false=true→v≠s→StepOf l (x.B.getD v z79)∧0<stRoom l F (x.B.getD v z79)∧toP l (x.B.getD v z79)=v∧x.I.getD (frP l (x.B.getD v z79)) false=true∧
  (x.D.getD (frP l (x.B.getD v z79)) 0+stTime l (x.B.getD v z79)<x.D.getD v 0∨(x.D.getD v 0=x.D.getD (frP l (x.B.getD v z79)) 0+stTime l (x.B.getD v z79)∧rk (frP l (x.B.getD v z79))<rk v))
theorem getD_set_if {β:Type} (L:List β) (i j:Nat) (x d:β) (h:i<L.length):(L.set i x).getD j d=if j=i then x else L.getD j d:=by
 by_cases e:j=i
 ·subst e;rw[Yx rfl,getD_set_eq _ _ _ _ h]
 ·rw[Yy e,getD_set_ne _ _ _ _ _ (Ne.symm e)]
theorem par_vis {l:List S50} {F:List Int} {n s v:Nat} {x:Rch} {rk:Nat→Nat} {T:Nat} (h:Par l F n s x rk T) (hk:x.Ok n) (hI:x.I.getD v false=true) {e:S79} (he:e∈stL l v l.length) (hw:toP l e<n):
  ∃ rk' T',Par l F n s (visR l F v x e) rk' T':=by
 unfold visR;by_cases hc:visC l F v x e=true
 ·rw[Yx hc]
  unfold visC at hc;rw[Bool.and_eq_true,decide_eq_true_eq] at hc;obtain⟨hroom,hcond⟩:=hc;have hfr:frP l e=v:=frP_of he;obtain⟨w,hwd⟩: ∃ w,w=toP l e:=⟨_,rfl⟩;have hwt:(stTo l e).toNat=w:=by rw[hwd];rfl
  rw[hwt] at hcond ⊢;rw[← hwd] at hw;have hwD:w<x.D.length:=by rw[hk.hD];exact hw
  have hwI:w<x.I.length:=by rw[hk.hI];exact hw
  have hwB:w<x.B.length:=by rw[hk.hB];exact hw
  have hless:x.I.getD w false=true→x.D.getD v 0+stTime l e<x.D.getD w 0:=by
   intro hi;rw[hi] at hcond
   simpa using hcond
  refine⟨fun u=>if u=w then T else rk u,T+1,⟨fun u=> ?_,fun u hu hIu hne=> ?_⟩⟩
  ·show (if u=w then T else rk u)<T+1
   split
   ·omega
   ·have:=h.lt u;omega
  ·simp only[getD_set_if _ _ _ _ _ hwB,getD_set_if _ _ _ _ _ hwD,getD_set_if _ _ _ _ _ hwI] at hIu ⊢
   by_cases huw:u=w
   ·subst huw
    simp only[if_true];rw[hfr];refine⟨stL_of he,hroom,hwd.symm,?_,?_⟩
    ·by_cases hvw:v=u
     ·rw[Yx hvw]
     ·rw[Yy hvw];exact hI
    ·by_cases hvw:v=u
     ·subst hvw
      left;simp only[if_true];have:=hless hI;omega
     ·right
      simp only[Yy hvw];exact⟨trivial,h.lt v⟩
   ·simp only[Yy huw] at hIu ⊢
    obtain⟨g1,g2,g3,g4,g5⟩:=h.is_ u hu hIu hne;refine⟨g1,g2,g3,?_,?_⟩
    ·split
     ·rfl
     ·exact g4
    ·by_cases hfw:frP l (x.B.getD u z79)=w
     ·left
      rw[Yx hfw];rw[hfw] at g4 g5;have:=hless g4;rcases g5 with g5|⟨g5,_⟩<;>omega
     ·rw[Yy hfw]
      rcases g5 with g5|⟨g5,g6⟩
      ·exact .inl g5
      ·exact .inr ⟨g5,by rw[Yy hfw];exact g6⟩
 ·rw[Yy hc];exact⟨rk,T,h⟩
theorem visR_keeps {l:List S50} {F:List Int} {n v:Nat} {x:Rch} (hk:x.Ok n) (e:S79) (hw:toP l e<n) {u:Nat} (hI:x.I.getD u false=true):(visR l F v x e).I.getD u false=true:=by
 unfold visR;split
 ·show (x.I.set (toP l e) true).getD u false=true
  rw[getD_set_if _ _ _ _ _ (by rw[hk.hI];exact hw)];split
  ·rfl
  ·exact hI
 ·exact hI
theorem par_fold {l:List S50} {F:List Int} {n s v:Nat} (r:List S79): ∀ {x:Rch} {rk:Nat→Nat} {T:Nat},(∀ e,e∈r→e∈stL l v l.length∧toP l e<n)→Par l F n s x rk T→x.Ok n→x.I.getD v false=true→
  ∃ rk' T',Par l F n s (r.foldl (visR l F v) x) rk' T':=by
 induction r with
 |nil=>intro x rk T _ h _ _;exact⟨rk,T,h⟩
 |cons e r ih=>
  intro x rk T hr h hk hI;obtain⟨h1,h2⟩:=hr e List.mem_cons_self;obtain⟨rk',T',h3⟩:=par_vis h hk hI h1 h2;exact ih (fun e he=>hr e (List.mem_cons_of_mem _ he)) h3 (visR_ok hk e) (visR_keeps hk e h2 hI)
theorem par_row {l:List S50} {F:List Int} {n s v:Nat} {x:Rch} {rk:Nat→Nat} {T:Nat} (hw: ∀ e,e∈stL l v l.length→toP l e<n) (h:Par l F n s x rk T) (hk:x.Ok n): ∃ rk' T',Par l F n s (rowR l F x v) rk' T':=by
 unfold rowR;by_cases hI:x.I.getD v false=true
 ·rw[Yx hI];exact par_fold _ (fun e he=>⟨he,hw e he⟩) h hk hI
 ·rw[Yy hI];exact⟨rk,T,h⟩
theorem par_rows {l:List S50} {F:List Int} {n s:Nat} (hw: ∀ (v:Nat) (e:S79),e∈stL l v l.length→toP l e<n) (vs:List Nat): ∀ {x:Rch} {rk:Nat→Nat} {T:Nat},Par l F n s x rk T→x.Ok n→ ∃ rk' T',Par l F n s (vs.foldl (rowR l F) x) rk' T':=by
 induction vs with
 |nil=>intro x rk T h _;exact⟨rk,T,h⟩
 |cons v vs ih=>
  intro x rk T h hk;obtain⟨rk',T',h1⟩:=par_row (hw v) h hk;exact ih h1 (rowR_ok hk)
theorem par_round {l:List S50} {F:List Int} {n s:Nat} (hw: ∀ (v:Nat) (e:S79),e∈stL l v l.length→toP l e<n) {x:Rch} {rk:Nat→Nat} {T:Nat} (h:Par l F n s x rk T) (hk:x.Ok n): ∃ rk' T',Par l F n s (roundR l F n x) rk' T':=
 par_rows hw _ (x:= { x with still:=true }) ⟨h.lt,h.is_⟩ ⟨hk.hD,hk.hI,hk.hB⟩
theorem par_goes {l:List S50} {F:List Int} {n s:Nat} (hr:Right l F n) (k:Nat): ∀ {x:Rch} {rk:Nat→Nat} {T:Nat},Par l F n s x rk T→x.Ok n→ ∃ rk' T',Par l F n s (goesR l F n k x).1 rk' T':=by
 have hw: ∀ v e,e∈stL l (v:Nat) l.length→toP l e<n:=fun v e he=>toP_lt hr (stL_of he)
 induction k with
 |zero=>intro x rk T h _;exact⟨rk,T,h⟩
 |succ k ih=>
  intro x rk T h hk;obtain⟨rk',T',h1⟩:=par_round hw h hk;have hk1:=(roundR_abs (F:=F) (stTo_lt hr) hk).1;unfold goesR;split
  ·exact⟨rk',T',h1⟩
  ·exact ih h1 hk1
theorem startR_I {n s v:Nat} (hs:s<n):(startR n s).I.getD v false=decide (v=s):=by
 have h:=start_abs n s hs v;unfold absR at h;by_cases e:v=s
 ·rw[Yx e] at h
  rw[Yv e];cases hI:(startR n s).I.getD v false with
  |true=>rfl
  |false=>rw[hI] at h;cases h
 ·rw[Yy e] at h
  rw[Yw e];cases hI:(startR n s).I.getD v false with
  |false=>rfl
  |true=>rw[hI,Yx rfl] at h;cases h
theorem par_start (l:List S50) (F:List Int) {n s:Nat} (hs:s<n):Par l F n s (startR n s) (fun _=>0) 1:=
 ⟨fun _=>Nat.lt_succ_self _,fun v hv hI hne=>by rw[startR_I hs,decide_eq_true_eq] at hI;exact absurd hI hne⟩
def reachS (l:List S50) (F:List Int) (n s:Nat):Rch:=(goesR l F n (n+1) (startR n s)).1
structure ByOk (l:List S50) (F:List Int) (n s:Nat) (x:Rch) (rk:Nat→Nat):Prop where
 is_: ∀ v,v<n→x.I.getD v false=true→v≠s→StepOf l (x.B.getD v z79)∧0<stRoom l F (x.B.getD v z79)∧toP l (x.B.getD v z79)=v∧x.I.getD (frP l (x.B.getD v z79)) false=true∧x.D.getD v 0=x.D.getD (frP l (x.B.getD v z79)) 0+stTime l (x.B.getD v z79)∧rk (frP l (x.B.getD v z79))<rk v
theorem by_ok {l:List S50} {F:List Int} {n s:Nat} (hr:Right l F n) (hs:s<n) (h2:(goesR l F n (n+1) (startR n s)).2=true): ∃ rk,ByOk l F n s (reachS l F n s) rk:=by
 obtain⟨rk,T,h⟩:=par_goes hr (n+1) (par_start l F hs) (startR_ok n s);obtain⟨_,_,g3,_⟩:=goesR_spec (F:=F) (stTo_lt hr) (n+1) (startR_ok n s);have hq:=g3 h2;refine⟨rk,⟨fun v hv hI hne=> ?_⟩⟩;have h:Par l F n s (reachS l F n s) rk T:=h;obtain⟨a1,a2,a3,a4,a5⟩:=h.is_ v hv hI hne;have hfl:=frP_lt hr a1;have hmem:=(mem_esP.1 (esP_of hr a1 a2)).1;have he:edgeS l (frP l ((reachS l F n s).B.getD v z79)) ((reachS l F n s).B.getD v z79)∈liveE l F n:=by
  unfold liveE;refine List.mem_flatMap.2 ⟨_,List.mem_range.2 hfl,?_⟩;unfold liveS;exact List.mem_map.2 ⟨_,List.mem_filter.2 ⟨hmem,Yv a2⟩,rfl⟩
 have ht:=hq _ he;have hx:absR (reachS l F n s) (frP l ((reachS l F n s).B.getD v z79))=some ((reachS l F n s).D.getD (frP l ((reachS l F n s).B.getD v z79)) 0):=by unfold absR;rw[Yx a4]
 obtain⟨y,hy,hle⟩:=trig_off ht hx;have hv2:absR (reachS l F n s) v=some ((reachS l F n s).D.getD v 0):=by unfold absR;rw[Yx hI]
 have hy2:absR (reachS l F n s) (toP l ((reachS l F n s).B.getD v z79))=some y:=hy;rw[show toP l ((reachS l F n s).B.getD v z79)=v from a3,hv2] at hy2;injection hy2 with hy2
 have hle:y≤(reachS l F n s).D.getD (frP l ((reachS l F n s).B.getD v z79)) 0+stTime l ((reachS l F n s).B.getD v z79):=hle;refine⟨a1,a2,a3,a4,?_,?_⟩
 ·rcases a5 with a5|⟨a5,_⟩
  ·have a5:(reachS l F n s).D.getD (frP l ((reachS l F n s).B.getD v z79)) 0+stTime l ((reachS l F n s).B.getD v z79)<(reachS l F n s).D.getD v 0:=a5
   omega
  ·exact a5
 ·rcases a5 with a5|⟨_,a6⟩
  ·have a5:(reachS l F n s).D.getD (frP l ((reachS l F n s).B.getD v z79)) 0+stTime l ((reachS l F n s).B.getD v z79)<(reachS l F n s).D.getD v 0:=a5
   omega
  ·exact a6
def backB (l:List S50) (x:Rch) (s:Nat):Nat→Nat→List S79
 |0,_=>[]
 |k+1,v=>if v=s then [] else(x.B.getD v z79)::backB l x s k (frP l (x.B.getD v z79))
def cntB (rk:Nat→Nat) (n v:Nat):Nat:=(List.range n).countP fun u=>decide (rk u<rk v)
theorem countP_lt {p q:Nat→Bool} : ∀ {L:List Nat} {a:Nat},(∀ u,p u=true→q u=true)→a∈L→q a=true→p a=false→L.countP p<L.countP q
 |[],_,_,h,_,_=>by cases h
 |b::L,a,h,ha,h1,h2=>by
  have hle:L.countP p≤L.countP q:=by
   clear ha
   induction L with
   |nil=>exact Nat.le_refl _
   |cons c L ih=>
    rw[List.countP_cons,List.countP_cons];by_cases hc:p c=true
    ·rw[Yx hc,Yx (h c hc)];omega
    ·rw[Yy hc];split<;>omega
  rw[List.countP_cons,List.countP_cons];rcases List.mem_cons.1 ha with rfl|ha
  ·rw[h1,h2];simp;omega
  ·have:=countP_lt h ha h1 h2
   by_cases hc:p b=true
   ·rw[Yx hc,Yx (h b hc)];omega
   ·rw[Yy hc];split<;>omega
theorem cntB_lt {rk:Nat→Nat} {n u v:Nat} (hu:u<n) (h:rk u<rk v):cntB rk n u<cntB rk n v:=by
 unfold cntB;refine countP_lt (a:=u) (fun w hw=> ?_) (List.mem_range.2 hu) (Yv h) (Yw (Nat.lt_irrefl _));have:=Yu hw;exact Yv (by omega)
theorem cntB_le (rk:Nat→Nat) (n v:Nat):cntB rk n v≤n:=by
 unfold cntB;exact Nat.le_trans List.countP_le_length (by rw[List.length_range];exact Nat.le_refl _)
structure BackOk (l:List S50) (F:List Int) (n s:Nat) (x:Rch) (rk:Nat→Nat) (v:Nat) (C:List S79):Prop where
 leads:Leads (toP l) (esP l F) s C.reverse v
 tight: ∀ e,e∈C→x.I.getD (frP l e) false=true∧x.I.getD (toP l e) false=true∧x.D.getD (toP l e) 0=x.D.getD (frP l e) 0+stTime l e∧rk (frP l e)<rk (toP l e)
 short:C.length≤cntB rk n v
theorem back_ok {l:List S50} {F:List Int} {n s:Nat} {x:Rch} {rk:Nat→Nat} (hr:Right l F n) (h:ByOk l F n s x rk) (k:Nat): ∀ v,v<n→x.I.getD v false=true→cntB rk n v<k→BackOk l F n s x rk v (backB l x s k v):=by
 induction k with
 |zero=>intro v _ _ hk;omega
 |succ k ih=>
  intro v hv hI hk;unfold backB;by_cases hvs:v=s
  ·rw[Yx hvs]
   exact⟨hvs.symm,fun e he=>(by cases he),Nat.zero_le _⟩
  ·rw[Yy hvs]
   obtain⟨a1,a2,a3,a4,a5,a6⟩:=h.is_ v hv hI hvs;have hfl:=frP_lt hr a1;have hlt:=cntB_lt (n:=n) hfl a6;obtain⟨b1,b2,b3⟩:=ih _ hfl a4 (by omega);refine⟨?_,fun e he=> ?_,?_⟩
   ·rw[List.reverse_cons]
    have h_:=Leads.snoc b1 (esP_of hr a1 a2);rw[a3] at h_;exact h_
   ·rcases List.mem_cons.1 he with rfl|he
    ·rw[a3];exact⟨a4,hI,a5,a6⟩
    ·exact b2 e he
   ·rw[List.length_cons];omega
end H
namespace H
open P Q
theorem rise_apart {l:List S50} (lv:Nat→Nat): ∀ {L:List S79} {a b:Int},Trail l a L b→(∀ s,s∈L→lv (frP l s)<lv (toP l s))→
  L.Pairwise (fun x y=>x.f0≠y.f0)∧ ∀ s,s∈L→lv a.toNat≤lv (frP l s)
 |[],_,_,_,_=>⟨List.Pairwise.nil,fun s hs=>by cases hs⟩
 |x::L,a,b,h,hv=>by
  obtain⟨hs,ha,ht⟩:=h;have hx:=hv x List.mem_cons_self;obtain⟨h1,h2⟩:=rise_apart lv ht (fun s hs=>hv s (List.mem_cons_of_mem _ hs));refine⟨List.pairwise_cons.2 ⟨fun y hy e=> ?_,h1⟩,fun s hs=> ?_⟩
  ·have h3:=h2 y hy
   have h4:=hv y (List.mem_cons_of_mem _ hy);have h5:(frP l y=frP l x∧toP l y=toP l x)∨(frP l y=toP l x∧toP l y=frP l x):=by
    unfold frP toP stFrom stTo;rw[e];cases x.f1<;>cases y.f1<;>simp
   have h6:lv (stTo l x).toNat=lv (toP l x):=rfl;rcases h5 with ⟨e1,e2⟩|⟨e1,e2⟩
   ·rw[e1] at h3;omega
   ·rw[e1,e2] at h4;omega
  ·rcases List.mem_cons.1 hs with rfl|hs
   ·have:lv (stFrom l s).toNat=lv (frP l s):=rfl
    rw[ha] at this;omega
   ·have:=h2 s hs
    have h6:lv (stTo l x).toNat=lv (toP l x):=rfl;have h7:lv (stFrom l x).toNat=lv (frP l x):=rfl;rw[ha] at h7;omega
theorem push_way {l:List S50} {F:List Int} {n s t:Nat} (hf:IsFlow l F n s t) (hst:s≠t) {L:List S79} (hL:Leads (toP l) (esP l F) s L t) (hap:L.Pairwise (fun a b=>a.f0≠b.f0)):
  IsFlow l (pushW F (leastR l F L) L) n s t∧1≤leastR l F L∧L≠[]∧bal l (pushW F (leastR l F L) L) s=bal l F s+leastR l F L∧(∀ s,s∈L→StepOf l s)∧leastR l F L≤1048576∧(∀ e,e∈L→0<stRoom l F e):=by
 have hne:L≠[]:=by rintro rfl;exact hst hL
 have htr:=leads_trail hf.right (rows:=esP l F) (fun u e h=>(mem_esP.1 h).1) hL;have hroom: ∀ e,e∈L→0<stRoom l F e:=by
  have key: ∀ (L:List S79) (a b:Nat),Leads (toP l) (esP l F) a L b→ ∀ e,e∈L→0<stRoom l F e:=by
   intro L
   induction L with
   |nil=>intro a b _ e he;cases he
   |cons x L ih=>
    intro a b h e he;rcases List.mem_cons.1 he with rfl|he
    ·exact(mem_esP.1 h.1).2
    ·exact ih _ _ h.2 e he
  exact key L s t hL
 obtain⟨m,hm,hle⟩:=leastR_in (l:=l) (F:=F) hne;have h1:1≤leastR l F L:=by rw[hle];exact hroom m hm
 have hr:=Right.pushW (k:=leastR l F L) (by omega) L hf.right (fun e he=>⟨htr.of e he,leastR_le he⟩) hap;have hb:=fun v=>bal_pushW (leastR l F L) v hf.right.len htr
 have hmx:=(stRoom_in hf.right (htr.of m hm)).2;refine⟨⟨hr,fun v h0 h1 h2 h3=> ?_⟩,h1,hne,?_,htr.of,by omega,hroom⟩
 ·rw[hb,Yy h2,Yy h3,hf.keeps v h0 h1 h2 h3];rfl
 ·rw[hb,Yx rfl,Yy (by omega)];omega
theorem room_push {l:List S50} {n:Nat} {k:Int} (h0:0≤k) (L:List S79): ∀ {F:List Int},F.length=l.length→(∀ s,s∈L→StepOf l s)→ ∀ e:S79,StepOf l e→0<stRoom l (pushW F k L) e→0<stRoom l F e∨ ∃ x,x∈L∧x.f0=e.f0∧x.f1= !e.f1:=by
 induction L with
 |nil=>intro F _ _ e _ h;exact .inl h
 |cons x L ih=>
  intro F hF hL e he h;have hx:=hL x List.mem_cons_self;have h1:0<stRoom l (pushW (goS F x k) k L) e:=h;rcases ih (by rw[goS_len];exact hF) (fun s hs=>hL s (List.mem_cons_of_mem _ hs)) e he h1 with h2|⟨y,hy,h3,h4⟩
  ·by_cases hne:x.f0=e.f0
   ·by_cases hb:x.f1=e.f1
    ·left
     obtain⟨i,hi,hxi⟩:=hx;have hei:e.f0=(i:Int):=by rw[← hne];exact hxi
     unfold stRoom goS at h2;unfold stRoom;rw[hxi,hei,hb] at h2;rw[hei];simp only[Int.toNat_natCast] at h2 ⊢;rw[getD_set_eq _ _ _ _ (by omega)] at h2;cases hb1:e.f1<;>rw[hb1] at h2<;>simp only[Bool.false_eq_true,if_false,if_true] at h2 ⊢ <;>omega
    ·right
     refine⟨x,List.mem_cons_self,hne,?_⟩;cases h5:x.f1<;>cases h6:e.f1<;>rw[h5,h6] at hb<;>simp at hb ⊢
   ·left
    rw[room_other hx he k hne] at h2;exact h2
  ·exact .inr ⟨y,List.mem_cons_of_mem _ hy,h3,h4⟩
structure TightWay (l:List S50) (F:List Int) (s t:Nat) (d:Nat→Option Int) (L:List S79):Prop where
 leads:Leads (toP l) (esP l F) s L t
 apart:L.Pairwise (fun a b=>a.f0≠b.f0)
 tight: ∀ e,e∈L→ ∃ x,d (frP l e)=some x∧d (toP l e)=some (x+stTime l e)
theorem span_push {l:List S50} {F:List Int} {n s t:Nat} {c:Int} (h:SpanOk l F n s t c) (hs:s<n) (hst:s≠t) {d:Nat→Option Int} (hd:TightO l F d) (h0:d s=some 0) {x:Int} (hx:d t=some x) (hxc:x<c) {L:List S79} (hL:TightWay l F s t d L):
  SpanOk l (pushW F (leastR l F L) L) n s t c∧bal l F s+1≤bal l (pushW F (leastR l F L) L) s:=by
 obtain⟨p1,p2,p3,p4,p5,p6,p7⟩:=push_way h.flow hst hL.leads hL.apart;refine⟨⟨p1,?_⟩,by omega⟩;obtain⟨q,hq,q0,q1⟩:=h.nums
 -- a number above all that is told on the way
 have hK: ∃ K:Int,0≤K∧(∀ y,d s=some y→y≤q s+K)∧(∀ y,d t=some y→y≤q t+K)∧ ∀ e,e∈L→(∀ y,d (frP l e)=some y→y≤q (frP l e)+K)∧ ∀ y,d (toP l e)=some y→y≤q (toP l e)+K:=by
  have one: ∀ v:Nat, ∃ K:Int,0≤K∧ ∀ y,d v=some y→y≤q v+K:=by
   intro v;cases hv:d v with
   |none=>exact⟨0,Int.le_refl _,fun y hy=>by cases hy⟩
   |some z=>exact⟨max 0 (z - q v),by omega,fun y hy=>by injection hy with hy;omega⟩
  have all: ∀ M:List S79, ∃ K:Int,0≤K∧ ∀ e,e∈M→(∀ y,d (frP l e)=some y→y≤q (frP l e)+K)∧ ∀ y,d (toP l e)=some y→y≤q (toP l e)+K:=by
   intro M
   induction M with
   |nil=>exact⟨0,Int.le_refl _,fun e he=>by cases he⟩
   |cons x M ih=>
    obtain⟨K1,k1,h1⟩:=ih;obtain⟨K2,k2,h2⟩:=one (frP l x);obtain⟨K3,k3,h3⟩:=one (toP l x);refine⟨K1+K2+K3,by omega,fun e he=> ?_⟩;rcases List.mem_cons.1 he with rfl|he
    ·exact⟨fun y hy=>by have:=h2 y hy;omega,fun y hy=>by have:=h3 y hy;omega⟩
    ·exact⟨fun y hy=>by have:=(h1 e he).1 y hy;omega,fun y hy=>by have:=(h1 e he).2 y hy;omega⟩
  obtain⟨K1,k1,h1⟩:=all L;obtain⟨K2,k2,h2⟩:=one s;obtain⟨K3,k3,h3⟩:=one t;refine⟨K1+K2+K3,by omega,fun y hy=>by have:=h2 y hy;omega,fun y hy=>by have:=h3 y hy;omega,fun e he=>⟨fun y hy=>by have:=(h1 e he).1 y hy;omega,fun y hy=>by have:=(h1 e he).2 y hy;omega⟩⟩
 obtain⟨K,_,ks,kt,kL⟩:=hK;have hp:=TightP.min_ hd (hq.plus K);refine⟨minO d (fun v=>q v+K),fun e he hrm=> ?_,?_,?_⟩
 ·rcases room_push (n:=n) (by omega) L h.flow.right.len p5 e he hrm with h1|⟨y,hy,h3,h4⟩
  ·exact hp e he h1
  ·obtain⟨z,z1,z2⟩:=hL.tight y hy
   have e1:toP l e=frP l y:=by unfold toP frP stTo stFrom;rw[h3,h4];cases e.f1<;>simp
   have e2:frP l e=toP l y:=by unfold toP frP stTo stFrom;rw[h3,h4];cases e.f1<;>simp
   have e3:stTime l e= - stTime l y:=by unfold stTime;rw[h3,h4];cases e.f1<;>simp
   have m1:=(kL y hy).1 z z1;have m2:=(kL y hy).2 _ z2;rw[e1,e2,e3,minO_some z1,minO_some z2];show min z (q (frP l y)+K)≤min (z+stTime l y) (q (toP l y)+K)+ -stTime l y;omega
 ·rw[minO_some h0]
  have:=ks 0 h0;show min 0 (q s+K)=0;omega
 ·rw[minO_some hx]
  have:=kt x hx;show min x (q t+K)<c;omega
theorem span_zero {l:List S50} {n s t:Nat} {c:Int} (hr:Right l (List.replicate l.length 0) n) (hc:0<c):SpanOk l (List.replicate l.length 0) n s t c:=
 ⟨(zeros_of hr).1,fun _=>0,tight_zero hr,rfl,hc⟩
end H
namespace H
open P Q
theorem refE_of {l:List S50} {F:List Int} {n:Nat} (hr:Right l F n) {e:S79} (he:StepOf l e) (hrm:0<stRoom l F e):edgeF l e∈refE l F:=by
 unfold refE;refine List.mem_map.2 ⟨e,(mem_stepsR l F F.length e).2 ⟨?_,hrm⟩,rfl⟩;obtain⟨i,h1,h2⟩:=he;exact⟨i,by rw[hr.len];exact h1,h2⟩
theorem tightP_noGain {l:List S50} {F:List Int} {n:Nat} (hr:Right l F n) {q:Nat→Int} (h:TightP l F q):NoGain (refE l F) (fun v=>v<n):=by
 refine Tight.noGain (p:=q) ?_;intro e he _;refine⟨(refE_in hr e he).2,?_⟩;obtain⟨s,hs,rfl⟩:=List.mem_map.1 he;exact h s (stepsR_of hr s hs) ((mem_stepsR l F F.length s).1 hs).2
structure ReachOk (l:List S50) (F:List Int) (n s:Nat) (x:Rch):Prop where
 ok:x.Ok n
 tight:TightO l F (absR x)
 start:absR x s=some 0
 by_: ∃ rk,ByOk l F n s x rk
theorem reach_ok {l:List S50} {F:List Int} {n s:Nat} (hr:Right l F n) (hs:s<n) (hg:NoGain (refE l F) (fun v=>v<n)):(goesR l F n (n+1) (startR n s)).2=true∧ReachOk l F n s (reachS l F n s):=by
 have h0: ∀ v c,absR (startR n s) v=some c→v<n∧v<n:=by
  intro v c hc;rw[start_abs n s hs] at hc;split at hc
  ·rename_i e;omega
  ·cases hc
 have h2:=goes_ok hr (startR_ok n s) hg h0;have ht:=goes_told hr (startR_ok n s) (n+1) h2;refine⟨h2,(goesR_spec (F:=F) (stTo_lt hr) (n+1) (startR_ok n s)).1,fun e he hrm x hx=> ?_,?_,by_ok hr hs h2⟩
 ·exact trig_off (ht.still _ (refE_of hr he hrm)) hx
 ·refine still_start ht.still ht.real ht.bet (by rw[start_abs n s hs,Yx rfl]) (fun u x hx=> ?_)
  rw[start_abs n s hs] at hx;split at hx
  ·assumption
  ·cases hx
def wayS (l:List S50) (F:List Int) (n s t:Nat):List S79:=(backB l (reachS l F n s) s (n+1) t).reverse
theorem wayS_ok {l:List S50} {F:List Int} {n s t:Nat} (hr:Right l F n) (h:ReachOk l F n s (reachS l F n s)) (ht:t<n) (hI:(reachS l F n s).I.getD t false=true):TightWay l F s t (absR (reachS l F n s)) (wayS l F n s t)∧(wayS l F n s t).length≤n:=by
 obtain⟨rk,hb⟩:=h.by_;obtain⟨b1,b2,b3⟩:=back_ok hr hb (n+1) t ht hI (by have:=cntB_le rk n t;omega);refine⟨⟨b1,?_,fun e he=> ?_⟩,by unfold wayS;rw[List.length_reverse];have:=cntB_le rk n t;omega⟩
 ·refine(rise_apart rk (leads_trail hr (rows:=esP l F) (fun u e h=>(mem_esP.1 h).1) b1) (fun e he=> ?_)).1
  exact(b2 e (List.mem_reverse.1 he)).2.2.2
 ·obtain⟨c1,c2,c3,_⟩:=b2 e (List.mem_reverse.1 he)
  refine⟨(reachS l F n s).D.getD (frP l e) 0,by unfold absR;rw[Yx c1],?_⟩;unfold absR;rw[Yx c2,c3]
def nearS (l:List S50) (F:List Int) (n s t:Nat) (H:Int):Prop:=(reachS l F n s).I.getD t false=true∧(reachS l F n s).D.getD t 0≤H
instance (l:List S50) (F:List Int) (n s t:Nat) (H:Int):Decidable (nearS l F n s t H):=by unfold nearS;exact inferInstance
def spanS (l:List S50) (n s t:Nat) (H:Int):Nat→List Int→List Int
 |0,F=>F
 |k+1,F=>if nearS l F n s t H then spanS l n s t H k (pushW F (leastR l F (wayS l F n s t)) (wayS l F n s t)) else F
theorem spanS_go {l:List S50} {n s t k:Nat} {H:Int} {F:List Int} (h:nearS l F n s t H):spanS l n s t H (k+1) F=spanS l n s t H k (pushW F (leastR l F (wayS l F n s t)) (wayS l F n s t)):=by rw[spanS,Yx h]
theorem spanS_end {l:List S50} {n s t k:Nat} {H:Int} {F:List Int} (h: ¬ nearS l F n s t H):spanS l n s t H (k+1) F=F:=by rw[spanS,Yy h]
theorem span_near {l:List S50} {F:List Int} {n s t:Nat} {H:Int} (h:SpanOk l F n s t (H+1)) (hs:s<n) (ht:t<n) (hst:s≠t) (hn:nearS l F n s t H):
  SpanOk l (pushW F (leastR l F (wayS l F n s t)) (wayS l F n s t)) n s t (H+1)∧bal l F s+1≤bal l (pushW F (leastR l F (wayS l F n s t)) (wayS l F n s t)) s:=by
 obtain⟨q,hq,_⟩:=h.nums;obtain⟨_,hR⟩:=reach_ok h.flow.right hs (tightP_noGain h.flow.right hq);refine span_push h hs hst hR.tight hR.start (x:=(reachS l F n s).D.getD t 0) (by unfold absR;rw[Yx hn.1]) (by have:=hn.2;omega) (wayS_ok h.flow.right hR ht hn.1).1
theorem spanS_ok {l:List S50} {n s t:Nat} {H:Int} (hs:s<n) (ht:t<n) (hst:s≠t) (k:Nat): ∀ {F:List Int},SpanOk l F n s t (H+1)→209715200 - bal l F s<k→SpanOk l (spanS l n s t H k F) n s t (H+1)∧ ¬ nearS l (spanS l n s t H k F) n s t H:=by
 induction k with
 |zero=>intro F h hk;have:=flow_top h.flow hs hst;omega
 |succ k ih=>
  intro F h hk;by_cases hn:nearS l F n s t H
  ·rw[spanS_go hn]
   obtain⟨h1,h2⟩:=span_near h hs ht hst hn;exact ih h1 (by omega)
  ·rw[spanS_end hn];exact⟨h,hn⟩
structure SpanTop (l:List S50) (F:List Int) (n s t:Nat) (H:Int):Prop where
 ok:SpanOk l F n s t (H+1)
 far: ∃ d:Nat→Option Int,TightO l F d∧d s=some 0∧ ∀ x,d t=some x→H+1≤x
theorem SpanTop.le {l:List S50} {F G:List Int} {n s t:Nat} {H:Int} (h:SpanTop l F n s t H) (hg:IsFlow l G n s t) (hs:s<n) (ht:t<n) (hst:s≠t):worthS l G s (H+1)≤worthS l F s (H+1):=by
 obtain⟨d,d1,d2,d3⟩:=h.far;exact h.ok.top hg hs ht hst d1 d2 d3
theorem spanS_top {l:List S50} {n s t:Nat} {H:Int} (hs:s<n) (ht:t<n) (hst:s≠t) {F:List Int} (h:SpanOk l F n s t (H+1)) (hn: ¬ nearS l F n s t H):SpanTop l F n s t H:=by
 obtain⟨q,hq,_⟩:=h.nums;obtain⟨_,hR⟩:=reach_ok h.flow.right hs (tightP_noGain h.flow.right hq);refine⟨h,absR (reachS l F n s),hR.tight,hR.start,fun x hx=> ?_⟩;unfold absR at hx;split at hx
 ·rename_i hI
  injection hx with hx
  have: ¬ (reachS l F n s).D.getD t 0≤H:=fun g=>hn ⟨hI,g⟩
  omega
 ·cases hx
def fillS (l:List S50) (n s t:Nat) (H:Int):List Int:=spanS l n s t H 300000000 (List.replicate l.length 0)
theorem fillS_top {l:List S50} {n s t:Nat} {H:Int} (hr:Right l (List.replicate l.length 0) n) (hs:s<n) (ht:t<n) (hst:s≠t) (hH:0≤H):SpanTop l (fillS l n s t H) n s t H∧ ¬ nearS l (fillS l n s t H) n s t H:=by
 have h0:=span_zero (t:=t) (s:=s) hr (c:=H+1) (by omega);have hb:=(zeros_of (s:=s) (t:=t) hr).2;obtain⟨h1,h2⟩:=spanS_ok (H:=H) hs ht hst 300000000 h0 (by omega);exact⟨spanS_top hs ht hst h1 h2,h2⟩
end H
namespace H
open P
structure Ks (S:Nat→Prop) (w w':World):Prop where
 os:w'.os=w.os
 tape:w'.tape=w.tape
 output:w'.output=w.output
 size:w.heap.size≤w'.heap.size
 block: ∀ k,k<w.heap.size→ ¬ S k→w'.heap[k]? =w.heap[k]?
section
variable {S T:Nat→Prop} {w w1 w2:World}
theorem Ks.of_below (h:Below w.heap.size w w1) (S:Nat→Prop):Ks S w w1:=⟨h.os,h.tape,h.output,h.size,fun b hb _=>h.block b hb⟩
theorem Ks.set (h:Ks S w w1) {g:Nat} (hg:g<w.heap.size→S g) (j:Nat) (u:Value):Ks S w (w1.setCell ⟨g,j,none⟩ u):=
 ⟨h.os,h.tape,h.output,by simpa [World.setCell] using h.size,fun k hk hs=>(Below.heap_setCell w1 ⟨g,j,none⟩ u k (by rintro rfl;exact hs (hg hk))).trans (h.block k hk hs)⟩
theorem Ks.toBelow {B:Nat} {w0:World} (h:Ks S w w1) (hb:Below B w0 w) (hB:B≤w.heap.size) (hS: ∀ b,S b→B≤b):Below B w0 w1:=
 hb.trans ⟨h.os,h.tape,h.output,h.size,fun k hk=>h.block k (by omega) (fun hs=>by have:=hS k hs;omega)⟩
theorem Ks.blk (h:Ks S w w1) {g:Nat} {o:Obj} (hb:w.heap[g]? =some o) (hs: ¬ S g):w1.heap[g]? =some o:=(h.block g (blk_lt hb) hs).trans hb
end
theorem nums_get (R:List Int) (j:Nat) (h:j<R.length):(nums .i64 R).toArray[j]? =some (.int .i64 (R.getD j 0)):=by
 simp[nums,List.getD_eq_getElem?_getD,List.getElem?_eq_getElem h]
attribute [local irreducible] wpQuiet
end H
namespace H
open P
def IsI (w:World) (g:Nat) (D:List Int):Prop:=w.heap[g]? =some (.cells (nums .i64 D).toArray 3 (0,0))
def stC (B:List S79):List Value:=B.flatMap fun s=>[.int .i64 s.f0, .bool s.f1]
def IsS (w:World) (g:Nat) (B:List S79):Prop:=w.heap[g]? =some (.cells (stC B).toArray 79 (0,0))
theorem stC_len (B:List S79):(stC B).length=2 * B.length:=by
 induction B with
 |nil=>rfl
 |cons s B ih=>show ([_,_] ++ stC B).length=_;rw[List.length_append,ih,List.length_cons];simp;omega
theorem stC_cons (s:S79) (B:List S79):stC (s::B)= .int .i64 s.f0:: .bool s.f1::stC B:=rfl
theorem stC_get (z:S79): ∀ (B:List S79) (u:Nat),u<B.length→(stC B)[u * 2]? =some (.int .i64 (B.getD u z).f0)∧(stC B)[u * 2+1]? =some (.bool (B.getD u z).f1)
 |[],u,h=>by simp at h
 |s::B,0,_=>⟨rfl,rfl⟩
 |s::B,u+1,h=>by
  have:=stC_get z B u (by simpa using h);rw[stC_cons,show (u+1) * 2=(u * 2+1)+1 by omega,List.getElem?_cons_succ,List.getElem?_cons_succ,List.getElem?_cons_succ,List.getElem?_cons_succ,List.getD_cons_succ];exact this
section
variable {w w1:World} {g:Nat} {D:List Int} {B:List S79}
theorem IsI.lt (h:IsI w g D):g<w.heap.size:=blk_lt h
theorem IsI.same (h:IsI w g D) (e:w1.heap[g]? =w.heap[g]?):IsI w1 g D:=e.trans h
theorem IsI.below (h:IsI w g D) (hb:Below w.heap.size w w1):IsI w1 g D:=h.same (hb.block g h.lt)
theorem IsI.cell (h:IsI w g D) {j:Nat} (hj:j<D.length):w.cell? ⟨g,j,none⟩=some (.int .i64 (D.getD j 0)):=(Yc h j).trans (nums_get D j hj)
theorem IsI.free (h:IsI w g D) (j:Nat):w.frozen? ⟨g,j,none⟩=false:=Yf h j
theorem IsI.put (h:IsI w g D) (j:Nat) (x:Int):IsI (w.setCell ⟨g,j,none⟩ (.int .i64 x)) g (D.set j x):=by
 refine(blk_set h j _).trans ?_;simp[nums,List.map_set]
theorem IsI.R (h:IsI w g D) (hl:D.length≤9223372036854775807) {base:Nat} (hb:base≤g) {ok:Nat→Prop} (hok:ok g):Kd.R (Kd.int .i64) 3 w base ok (.slice (some ⟨g,0,none⟩) D.length D.length) D:=by
 refine Kd.R_of_own (enc:=Value.int .i64) ?_ (fun k hk=> ?_)
 ·refine⟨by simp[encs], .inr ⟨g,D.length,_,rfl,hb,h,Nat.le_refl _,by simp only[maxLen];omega,by simp[nums],?_⟩⟩
  simp only[nums,encs,Nat.mul_one];exact List.take_of_length_le (by simp)
 ·have:g=k:=by simpa [Value.ownBlock] using hk
  subst this;exact hok
theorem IsS.R (h:IsS w g B) (hl:B.length≤9223372036854775807) {base:Nat} (hb:base≤g) {ok:Nat→Prop} (hok:ok g):Kd.R k79 79 w base ok (.slice (some ⟨g,0,none⟩) B.length B.length) B:=by
 refine⟨fun k hk=> ?_,stC B,⟨?_, .inr ⟨g,B.length,_,rfl,hb,h,Nat.le_refl _,by simp only[maxLen];omega,?_,?_⟩⟩,?_,fun j p hj=> ?_⟩
 ·have:g=k:=by simpa [Value.ownBlock] using hk
  subst this;exact hok
 ·rw[stC_len];show 2 * B.length=B.length * 2;omega
 ·show (stC B).toArray.size=B.length * 2
  rw[List.size_toArray,stC_len];omega
 ·show (stC B).toArray.toList.take (B.length * 2)=stC B
  rw[List.take_of_length_le (by simp[stC_len];omega)]
 ·rw[stC_len];show 2 * B.length=B.length * 2;omega
 ·obtain⟨hlt,hp⟩:=List.getElem?_eq_some_iff.1 hj
  obtain⟨h1,h2⟩:=stC_get p B j hlt;have hg:B.getD j p=p:=by rw[List.getD_eq_getElem?_getD,hj];rfl
  rw[hg] at h1 h2;have e:((stC B).drop (j * 2)).take 2=[.int .i64 p.f0, .bool p.f1]:=by
   apply List.ext_getElem?;intro m;rw[List.getElem?_take,List.getElem?_drop]
   match m with
   |0=>rw[Yx (by omega),Nat.add_zero,h1];rfl
   |1=>rw[Yx (by omega),h2];rfl
   |m+2=>rw[Yy (by omega)];rfl
  show Kd.M k79 w base _ p (((stC B).drop (j * 2)).take 2);rw[e];exact k79_mkM _ _ _ p
end
end H
namespace H
open P
attribute [local irreducible] wpQuiet
theorem info3:(Try.prog.info? 3).map (fun i=>(i.zero,i.size,i.bytes))=some (some (.int .i64 0),1,8):=by kernel_rfl
end H
namespace H
theorem exists_least {P:Nat→Prop} : ∀ m,P m→ ∃ n,P n∧ ∀ k,P k→n≤k:=by
 intro m
 induction m using Nat.strongRecOn with
 |_ m ih=>
  intro hm;by_cases h: ∃ k,k<m∧P k
  ·obtain⟨k,hk,hp⟩:=h
   exact ih k hk hp
  ·exact⟨m,hm,fun k hk=>Nat.le_of_not_lt fun hl=>h ⟨k,hl,hk⟩⟩
open Classical in
noncomputable def least (P:Nat→Prop):Nat:=if h: ∃ n,P n∧ ∀ k,P k→n≤k then Classical.choose h else 0
theorem least_both {P:Nat→Prop} (h: ∃ m,P m):P (least P)∧ ∀ k,P k→least P≤k:=by
 obtain⟨m,hm⟩:=h;unfold least;rw[dif_pos (exists_least m hm)];exact Classical.choose_spec (exists_least m hm)
theorem least_spec {P:Nat→Prop} (h: ∃ m,P m):P (least P):=(least_both h).1
theorem least_le {P:Nat→Prop} {m:Nat} (h:P m):least P≤m:=(least_both ⟨m,h⟩).2 m h
theorem least_lt {P Q:Nat→Prop} {m:Nat} (h:Q m) (hm:m<least P):least Q<least P:=Nat.lt_of_le_of_lt (least_le h) hm
end H
namespace H
open P
def revM (M:Nat→S79) (N i x:Nat):S79:=if x<i∨N - i≤x then M (N - 1 - x) else M x
theorem revM_step (M:Nat→S79) (N i j:Nat) (h:i+j+1=N) (hij:i<j) (x:Nat) (hx:x<N):revM M N (i+1) x=upd (upd (revM M N i) i (revM M N i j)) j (revM M N i i) x:=by
 unfold upd revM;by_cases e1:x=j
 ·subst e1
  rw[Yx (by omega),Yx rfl,Yy (by omega)];congr 1;omega
 ·rw[Yy e1]
  by_cases e2:x=i
  ·subst e2
   rw[Yx (by omega),Yx rfl,Yy (by omega)];congr 1;omega
  ·rw[Yy e2]
   by_cases e3:x<i∨N - i≤x
   ·rw[Yx (by omega),Yx e3]
   ·rw[Yy (by omega),Yy e3]
set_option maxHeartbeats 2000000 in
set_option maxRecDepth 100000 in
theorem reverse_calls (g N cap:Nat) (M:Nat→S79) (w:World) (h:Arr w g N M) (hN0:0<N) (hN:N≤1000000):
  Calls Try.prog 88 #[.slice (some ⟨g,0,none⟩) N cap] w fun e w'=>e= .returned (.tuple #[])∧Arr w' g N (fun x=>M (N - 1 - x))∧Fr w w' g:=by
 have HA:=Ya h;have p0:(0:Int)<(N:Int):=by omega
 have p1:(N:Int)≤1000000:=by omega
 clear h;go_enter Try.func88,Try.ntmps88;go_wp2_with fail;go_loopw [2,3] (fun v2 v3 w'=> ∃ i j:Nat,i+j+1=N∧v2= .int .i64 i∧v3= .int .i64 j∧i≤j+1∧Aside0 (Arr w' g N (revM M N i))∧Aside0 (Fr w w' g)) (fun v2 _ _=>N - (intOf v2).toNat)
 case atStart=>exact⟨0,N - 1,by omega,rfl,by first|go_num|(congr 1;omega),by omega,⟨HA.out.congr (fun x hx=>by unfold revM;rw[Yy (by omega)])⟩,⟨grow_refl w g⟩⟩
 case round=>
  obtain⟨i,j,hij,rfl,rfl,hle,HR,HF⟩:=hrel;by_cases hlt:i<j
  ·have e1:decide ((i:Int)<(j:Int))=true:=Yv (by omega)
   have q0:(0:Int)≤(i:Int):=by omega
   have q1:(i:Int)<(N:Int):=by omega
   have q2:(0:Int)≤(j:Int):=by omega
   have q3:(j:Int)<(N:Int):=by omega
   have q4:(1:Int)≤(j:Int):=by omega
   have a0:=HR.out.cell0 (x:=i) (by omega);have a1:=HR.out.cell1 (x:=i) (by omega);have b0:=HR.out.cell0 (x:=j) (by omega);have b1:=HR.out.cell1 (x:=j) (by omega);have f0:=HR.out.free (i * 2);have f1:=HR.out.free (i * 2+1);have f2:=HR.out.free (j * 2);have f3:=HR.out.free (j * 2+1);have n1:i * 2≠j * 2:=by omega
   have n2:i * 2≠j * 2+1:=by omega
   have n3:i * 2+1≠j * 2:=by omega
   have n4:i≠j:=by omega
   have HA2:=Ya ((((HR.out.put (x:=i) (by omega) (revM M N i j)).put (x:=j) (by omega) (revM M N i i)).congr (fun x hx=>revM_step M N i j hij hlt x hx)).drew);have HF2:Aside0 (Fr w ((((((wr.setCell ⟨g,i * 2,none⟩ (.int .i64 (revM M N i j).f0)).setCell ⟨g,i * 2+1,none⟩ (.bool (revM M N i j).f1)).setCell ⟨g,j * 2,none⟩ (.int .i64 (revM M N i i).f0)).setCell ⟨g,j * 2+1,none⟩ (.bool (revM M N i i).f1)).drew)) g):=⟨grow_drew (grow_set (grow_set (grow_set (grow_set HF.out _ _) _ _) _ _) _ _)⟩;clear HR HF;generalize revM M N i i=si at *;generalize revM M N i j=sj at *;go_wp2_with fail;go_region;clear a0 a1 b0 b1 f0 f1 f2 f3 n1 n2 n3 n4;generalize ((((wr.setCell ⟨g,i * 2,none⟩ (.int .i64 sj.f0)).setCell ⟨g,i * 2+1,none⟩ (.bool sj.f1)).setCell ⟨g,j * 2,none⟩ (.int .i64 si.f0)).setCell ⟨g,j * 2+1,none⟩ (.bool si.f1)).drew=w9 at HA2 HF2 ⊢;go_wp2_with fail;go_roundw
   case rel=>exact⟨i+1,j - 1,by omega,by go_num,by first|go_num|(congr 1;omega),by omega,HA2,HF2⟩
   case measure=>simp[intOf]<;>omega
  ·have e1:decide ((i:Int)<(j:Int))=false:=Yw (by omega)
   go_wp2_with fail;refine bodyPost_end (results_none rfl _ _ _) rfl ⟨rfl,HR.out.congr (fun x hx=> ?_),HF.out⟩;unfold revM;by_cases e3:x<i∨N - i≤x
   ·rw[Yx e3]
   ·rw[Yy e3]
    congr 1;omega
theorem map_rev (xs:List S79) (z:S79):(List.range xs.length).map (fun x=>xs.getD (xs.length - 1 - x) z)=xs.reverse:=by
 apply List.ext_getElem (by simp);intro j h1 h2;have hj:j<xs.length:=by simpa using h2
 rw[List.getElem_map,List.getElem_range,List.getElem_reverse,List.getD_eq_getElem?_getD,List.getElem?_eq_getElem (by omega)];rfl
theorem reverse_row (base:Nat) (ok:Nat→Prop) (v:Value) (xs:List S79) (w:World) (h:Kd.R k79 79 w base ok v xs) (hp:0<xs.length) (hl:xs.length≤1000000):
  Calls Try.prog 88 #[v] w fun e w'=>e= .returned (.tuple #[])∧Kd.R k79 79 w' base ok v xs.reverse∧w.grownBy w' v.ownBlock:=by
 obtain⟨g,cap,rfl,hb,hlt,_⟩:=Kd.R_form h hp;refine(reverse_calls g xs.length cap _ w (arr_of_R h hp) hp hl).mono ?_;rintro e w' ⟨rfl,ha,hf⟩;have hr:=R_of_arr (ok':=ok) h rfl hp ha hf (h.1 g rfl);rw[map_rev] at hr;exact⟨rfl,hr,hf.1⟩
end H
namespace H
open P Q
def endsErr (n:Int) (l:List S50) (s t:Int):Int:=if netErr n l=0 then(if 0≤s∧s<n∧0≤t∧t<n∧s≠t then 0 else 70) else netErr n l
end H
namespace H
open P
attribute [local irreducible] wpQuiet
theorem fromS_f {l:List S50} {F:List Int} {n:Nat} (hr:Right l F n) {s:S79} (hs:StepOf l s) (a:Int) (b:Bool):static_Flowing_From.f a b l F s.f0 s.f1=some (stFrom l s):=by
 obtain⟨i,h1,h2⟩:=hs;unfold static_Flowing_From.f stFrom eFrom eTo;rw[h2];cases s.f1<;>simp[h1]
end H
namespace H
open P
attribute [local irreducible] wpQuiet
set_option maxHeartbeats 4000000 in
set_option maxRecDepth 100000 in
theorem fastest_calls (n0:Nat) (Zc:Bool) (A2:Option Addr) (c2:Nat) (l:List S50) (A3:Option Addr) (c3:Nat) (F:List Int) (A4:Option Addr) (c4:Nat) (AD:Option Addr) (cD:Nat) (AI:Option Addr) (cI:Nat) (AB:Option Addr) (cB:Nat) (x:Rch) (rk:Nat→Nat) (s t:Nat) (w:World)
  (hR:Right l F n0) (hx:x.Ok n0) (hby:ByOk l F n0 s x rk) (hs:s<n0) (ht:t<n0) (hts:s≠t) (hI:x.I.getD t false=true) (hc2:l.length≤c2) (hc3:F.length≤c3) (h2:Kd.C k50 w A2 l.length l) (h3:Kd.C (Kd.int .i64) w A3 F.length F) (h5:Kd.C k79 w AB n0 x.B):
  Calls Try.prog 69 #[.agg #[.int .i64 (n0:Int), .bool Zc, .slice A2 l.length c2, .slice A3 F.length c3, .slice A4 n0 c4], .agg #[.slice AD n0 cD, .slice AI n0 cI, .slice AB n0 cB], .int .i64 (s:Int), .int .i64 (t:Int)] w fun e w'=> ∃ v:Value,e= .returned v∧Kd.R k79 79 w' w.heap.size (fun _=>True) v (backB l x s (n0+1) t).reverse∧Below w.heap.size w w':=by
 have hu118:=Try.underlying107;have hu115:=Try.underlying104;have hu109:=Try.underlying69;have hn50:=hR.fifty;obtain⟨ad,eAB,_⟩:=h5.2.2 (by omega);subst eAB;obtain⟨FULL,hFU⟩: ∃ L_,L_=backB l x s (n0+1) t:=⟨_,rfl⟩;rw[← hFU];have HFU:=Ya hFU;have HR:=Ya hR;have HX:=Ya hx;have HBY:=Ya hby
 have HIT:=Ya hI;have HC2:=Ya hc2;have HC3:=Ya hc3;have H2:=Ya h2;have H3:=Ya h3;have H5:=Ya h5;have HB:=Ya (Yo w.heap.size w);clear hR hx hby hI hc2 hc3 h2 h3 h5 hFU;go_enter Try.func69,Try.ntmps69;go_upto_region 2 with (first|((with_reducible refine gate_dst (N:=4) rfl ?_);refine Yz ?hg (N:=4) ?hd (cs:= #[.int .i64 (n0:Int), .bool Zc, .slice A2 l.length c2, .slice A3 F.length c3, .slice A4 n0 c4]) (t:=107) ?hr ?_;(case hd=>rfl);(case hg=>rfl);(case hr=>first|(go_simp;done)|(go_simp;rfl));intro g4 hg w5 Zf hb;have B4:=Ya Zf;have m0_:=Ya (Yk HB.out hb);clear HB hb Zf hg;have HB:=m0_;clear m0_)|((with_reducible refine gate_dst (N:=5) rfl ?_);refine Yz ?hg (N:=5) ?hd (cs:= #[.slice AD n0 cD, .slice AI n0 cI, .slice (some ad) n0 cB]) (t:=69) ?hr ?_;(case hd=>rfl);(case hg=>rfl);(case hr=>first|(go_simp;done)|(go_simp;rfl));intro g5 hg w6 Zf hb;have B5:=Ya Zf;have m0_:=Ya (Yk HB.out hb);have m1_:=Ya (Yn B4.out hb);clear HB B4 hb Zf hg;have HB:=m0_;have B4:=m1_;clear m0_ m1_)|fail)
 have HO:Aside0 (Kd.R k79 79 (w6.alloc (.cells #[] 79)) w.heap.size (fun k=>k≠g4∧k≠g5) (.slice (some ⟨w6.heap.size,0,none⟩) 0 0) []):=⟨IsS.R (B:=[]) (heap_alloc_new w6 _) (by simp) HB.out.size ⟨by have:=blk_lt B4.out;omega,by have:=blk_lt B5.out;omega⟩⟩;have m0_:=Ya (Ye HB.out (.cells #[] 79));have m1_:=Ya (Yn B4.out (Ye (Yo _ _) (.cells #[] 79)));have m2_:=Ya (Yn B5.out (Ye (Yo _ _) (.cells #[] 79)));clear HB B4 B5;have HB:=m0_;have B4:=m1_;have B5:=m2_;clear m0_ m1_ m2_;generalize w6.alloc (.cells #[] 79)=w7 at *;generalize Value.slice (some ⟨w6.heap.size,0,none⟩) 0 0=v0 at *;go_wp2_with fail;go_loopw [9,10] (fun v9 v10 w'=> ∃ (v m:Nat) (O:List S79),v10= .int .i64 (v:Int)∧v<n0∧Aside0 (x.I.getD v false=true)∧Aside0 (cntB rk n0 v<m)∧Aside0 (O ++ backB l x s m v=FULL)∧Aside0 (O.length+cntB rk n0 v≤50)∧Aside0 (Kd.R k79 79 w' w.heap.size (fun k=>k≠g4∧k≠g5) v9 O)∧Aside0 (w'.heap[g4]? =some (.cells #[.int .i64 (n0:Int), .bool Zc, .slice A2 l.length c2, .slice A3 F.length c3, .slice A4 n0 c4] 107 (0,0)))∧Aside0 (w'.heap[g5]? =some (.cells #[.slice AD n0 cD, .slice AI n0 cI, .slice (some ad) n0 cB] 69 (0,0)))∧Aside0 (Below w.heap.size w w')) (fun _ v10 _=>cntB rk n0 (intOf v10).toNat)
 case atStart=>exact⟨t,n0+1,[],rfl,ht,HIT,⟨by have:=cntB_le rk n0 t;omega⟩,⟨by rw[List.nil_append];exact HFU.out.symm⟩,⟨by have:=cntB_le rk n0 t;show 0+_≤_;omega⟩,HO,B4,B5,HB⟩
 case round=>
  clear HO B4 B5 HB;obtain⟨v,m,O,rfl,hv,HI,HM,HBK,HLN,HO,B4,B5,HB⟩:=hrel;obtain⟨m,rfl⟩: ∃ m_,m=m_+1:=⟨m - 1,by have:=HM.out;omega⟩;by_cases hvs:v=s
  ·have e1:((v:Int) != (s:Int))=false:=by rw[hvs];simp
   have hO:O=FULL:=by
    have h_:=HBK.out;rw[backB,Yx hvs,List.append_nil] at h_;exact h_
   have hlp:0<O.length:=by
    rw[hO,HFU.out,backB,Yy (Ne.symm hts)];simp
   have HOE:=Ya hO;have HLP:=Ya hlp;clear hO hlp hvs;go_wp2_with (first|(go_at_call 88;refine(reverse_row w.heap.size _ u9 O _ HO.out HLP.out (by have:=HLN.out;omega)).mono ?_;rintro e_ w9 ⟨rfl,hr,hg⟩;have m0_:=Ya hr;have m1_:=Ya (pw_below_grown HB.out _ HB.out.size hg (fun k hk=>Kd.R_base HO.out k hk));clear HO HB hr hg;have HO:=m0_;have HB:=m1_;clear m0_ m1_)|fail);go_ret;exact⟨_,rfl,by rw[← HOE.out];exact Kd.R_mono HO.out (fun _ _=>trivial),HB.out⟩
  ·have e1:((v:Int) != (s:Int))=true:=by rw[bne_iff_ne];omega
   obtain⟨a1,a2,a3,a4,a5,a6⟩:=HBY.out.is_ v hv HI.out hvs;obtain⟨e,hee⟩: ∃ e_,e_=x.B.getD v z79:=⟨_,rfl⟩;have hfl:=frP_lt HR.out a1;have hlt:=cntB_lt (n:=n0) hfl a6;have hff:=stFrom_in HR.out a1;have hfm:=fromS_f HR.out a1 (n0:Int) Zc;rw[← hee] at a1 a4 hfl hlt hff hfm;obtain⟨u,hu⟩: ∃ u_,u_=frP l e:=⟨_,rfl⟩;have hfi:stFrom l e=(u:Int):=by rw[hu];unfold frP;omega
   rw[hfi] at hfm;rw[← hu] at a4 hfl hlt;have HFM:=Ya hfm;have HBK2:Aside0 ((O ++ [e]) ++ backB l x s m u=FULL):=⟨by rw[← HBK.out,backB,Yy hvs, ← hee, ← hu,List.append_assoc];rfl⟩;have HA4:=Ya a4;have HM2:Aside0 (cntB rk n0 u<m):=⟨by have:=HM.out;omega⟩;have HLN2:Aside0 ((O ++ [e]).length+cntB rk n0 u≤50):=⟨by rw[List.length_append,List.length_singleton];have:=HLN.out;omega⟩;have HLT:=Ya hlt;have hOl:O.length≤50:=by have:=HLN.out;omega
   have hB:=HX.out.hB;have pv:(0:Int)≤(v:Int):=by omega
   have qv:(v:Int)<(n0:Int):=by omega
   obtain⟨ad',ead,b0,b1⟩:=at_T79 (Yt H5.out HB.out) (v:Int) pv qv;injection ead with ead
   subst ead;have hrd:rd_T79 x.B (v:Int)=e:=by rw[hee];unfold rd_T79;rw[Int.toNat_natCast]
   have HRD:=Ya hrd;rw[hrd,Int.toNat_natCast] at b0 b1;clear a1 a2 a3 a4 a5 a6 hlt hff hfm hfi hu hee hrd HBK HM hvs hB HI;have x2:wr.cell? ⟨g5,2,none⟩=some (.slice (some ad) n0 cB):=(Yc B5.out 2).trans rfl;go_wp2_with (first|((with_reducible refine gate_builtin (b:= .append) (xs:= #[.tmp 24, .tmp 30]) rfl ?_);at_builtin;refine Kd.R_append k79 (w0:=w) w.heap.size rfl (.tmp 24) (.tmp 30) 67 79 (.agg #[(.int .i64 0),(.bool false)]) 16 rfl Try.underlying67 info79 rfl (by decide) (by omega) u9 O e [.int .i64 e.f0, .bool e.f1] (fun k=>k≠g4∧k≠g5) (fun _=>False) rfl rfl ?aP (fun _ hk=>hk.elim) ?aF ?aO ?aB ?aS ?aL ?_;(case aP=>exact k79_mkM _ _ _ e);(case aF=>exact(fun k hk=>⟨by have:=blk_lt B4.out;omega,by have:=blk_lt B5.out;omega⟩));(case aO=>exact HO.out);(case aB=>exact HB.out);(case aS=>exact HB.out.size);(case aL=>omega);intro v1 w9 ho hb hg hat;have m0_:=Ya ho;have m1_:=Ya hb;have m2_:=Ya ((hg.block g4 (blk_lt B4.out) (fun h=>(HO.out.1 g4 h.symm).1 rfl)).trans B4.out);have m3_:=Ya ((hg.block g5 (blk_lt B5.out) (fun h=>(HO.out.1 g5 h.symm).2 rfl)).trans B5.out);clear HO B4 B5 HB ho hb hg hat b0 b1 x2;have HO:=m0_;have HB:=m1_;have B4:=m2_;have B5:=m3_;clear m0_ m1_ m2_ m3_)|fail);obtain⟨ad',ead,d0,d1⟩:=at_T79 (Yt H5.out HB.out) (v:Int) pv qv;injection ead with ead
   subst ead;rw[HRD.out,Int.toNat_natCast] at d0 d1;have q0: ∀ p:BelowW w9,p.at_.cell? ⟨g4,0,none⟩=some (.int .i64 (n0:Int)):=fun p=>p.cell ((Yc B4.out 0).trans rfl)
   have q1: ∀ p:BelowW w9,p.at_.cell? ⟨g4,1,none⟩=some (.bool Zc):=fun p=>p.cell ((Yc B4.out 1).trans rfl)
   have q2: ∀ p:BelowW w9,p.at_.cell? ⟨g4,2,none⟩=some (.slice A2 l.length c2):=fun p=>p.cell ((Yc B4.out 2).trans rfl)
   have q3: ∀ p:BelowW w9,p.at_.cell? ⟨g4,3,none⟩=some (.slice A3 F.length c3):=fun p=>p.cell ((Yc B4.out 3).trans rfl)
   have q4: ∀ p:BelowW w9,p.at_.cell? ⟨g5,2,none⟩=some (.slice (some ad) n0 cB):=fun p=>p.cell ((Yc B5.out 2).trans rfl)
   have q5: ∀ p:BelowW w9,p.at_.cell? (ad.add (v * 2))=some (.int .i64 e.f0):=fun p=>p.cell d0
   have q6: ∀ p:BelowW w9,p.at_.cell? ⟨(ad.add (v * 2)).block,(ad.add (v * 2)).off+1,none⟩=some (.bool e.f1):=fun p=>p.cell d1
   have HCA:Aside0 (∀ p:BelowW w9,Kd.C k50 p.at_ A2 l.length l):=⟨fun p=>Yt (Yt H2.out HB.out) p.below⟩;have HCF:Aside0 (∀ p:BelowW w9,Kd.C (Kd.int .i64) p.at_ A3 F.length F):=⟨fun p=>Yt (Yt H3.out HB.out) p.below⟩;clear d0 d1;refine wp_region_quiet_below (by kernel_rfl) (by kernel_rfl) ?_;(repeat(quiet_step ((first|(go_at_call 87;exact calls_below_of (static_Flowing_From.calls (n0:Int) Zc A2 c2 l A3 c3 F e.f0 e.f1 (u:Int) _ (HCA.out _) HC2.out (HCF.out _) HC3.out HFM.out))))));refine wpQuiet_nil ?_;intro wq hw';obtain⟨⟨wz,hbq⟩,hwq⟩:=hw';subst hwq;have m0_:=Ya (Ys HO.out hbq);have m1_:=Ya (Yn B4.out hbq);have m2_:=Ya (Yn B5.out hbq);have m3_:=Ya (Yk HB.out hbq);clear HO B4 B5 HB HCA HCF q0 q1 q2 q3 q4 q5 q6 hbq;have HO:=m0_;have B4:=m1_;have B5:=m2_;have HB:=m3_;clear m0_ m1_ m2_ m3_;go_wp2_with fail;go_roundw
   case rel=>exact⟨u,m,O ++ [e],rfl,hfl,HA4,HM2,HBK2,HLN2,HO,B4,B5,HB⟩
   case measure=>have h_:=HLT.out;simpa [intOf] using h_
end H
namespace H
open P
set_option maxHeartbeats 2000000 in
set_option maxRecDepth 100000 in
theorem go_calls (n0:Int) (Zc:Bool) (A2:Option Addr) (c2:Nat) (l:List S50) (gF cF:Nat) (F:List Int) (s:S79) (k:Int) (w:World)
  (hF:IsI w gF F) {i:Nat} (hi:i<F.length) (hs:s.f0=i) (hk: -9223372036854775808<k∧k≤9223372036854775807)
  (h1:s.f1=false→ -9223372036854775808≤F.getD i 0+k∧F.getD i 0+k≤9223372036854775807) (h2:s.f1=true→ -9223372036854775808≤F.getD i 0 - k∧F.getD i 0 - k≤9223372036854775807):
  Calls Try.prog 71 #[.agg #[.int .i64 n0, .bool Zc, .slice A2 l.length c2, .slice (some ⟨gF,0,none⟩) F.length cF], .agg #[.int .i64 s.f0, .bool s.f1], .int .i64 k] w fun e w'=>e= .returned (.tuple #[])∧IsI w' gF (goS F s k)∧Ks (fun b=>b=gF) w w':=by
 have hu115:=Try.underlying104;have hu38:=Try.underlying79;obtain⟨x,y⟩:=s;simp only at hs h1 h2;subst hs;have HF:=Ya hF;have hg:=hF.lt;clear hF;cases y
 ·have hb:=h1 rfl
  have hwr:IntKind.i64.wrap (F.getD i 0+k)=F.getD i 0+k:=IntWalk.i64_in _ (by omega);clear h1 h2;obtain⟨y0,hy0⟩: ∃ y,y=F.getD i 0:=⟨_,rfl⟩;rw[← hy0] at hwr hb;have HY:=Ya hy0;clear hy0;go_enter Try.func71,Try.ntmps71;go_upto_region 1 with (first|((with_reducible refine gate_dst (N:=3) rfl ?_);refine Yz ?hg (N:=3) ?hd (cs:= #[.int .i64 n0, .bool Zc, .slice A2 l.length c2, .slice (some ⟨gF,0,none⟩) F.length cF]) (t:=104) ?hr ?_;(case hd=>rfl);(case hg=>rfl);(case hr=>first|(go_simp;done)|(go_simp;rfl));intro g3 hg3 w3 Zf hb;have B3:=Ya Zf;have HB3:=Ya hb;have G3:Aside0 (w.heap.size≤g3):=⟨Nat.le_of_eq hg3.symm⟩;clear hg3;have m0_:=Ya (HF.out.below hb);clear HF hb Zf;have HF:=m0_;clear m0_)|((with_reducible refine gate_dst (N:=4) rfl ?_);refine Yz ?hg (N:=4) ?hd (cs:= #[.int .i64 (i:Int), .bool false]) (t:=79) ?hr ?_;(case hd=>rfl);(case hg=>rfl);(case hr=>first|(go_simp;done)|(go_simp;rfl));intro g4 hg4 w4 Zf hb;have B4:=Ya Zf;have G4:Aside0 (w.heap.size≤g4):=⟨Nat.le_trans HB3.out.size (Nat.le_of_eq hg4.symm)⟩;clear hg4;have HB4:=Ya (Yk HB3.out hb);have m0_:=Ya (HF.out.below hb);have m1_:=Ya (Yn B3.out hb);clear HF B3 HB3 hb Zf;have HF:=m0_;have B3:=m1_;clear m0_ m1_;have a3:w4.cell? ⟨g3,3,none⟩=some (.slice (some ⟨gF,0,none⟩) F.length cF):=(Yc B3.out 3).trans rfl;have b0:w4.cell? ⟨g4,0,none⟩=some (.int .i64 (i:Int)):=(Yc B4.out 0).trans rfl;have b1:w4.cell? ⟨g4,1,none⟩=some (.bool false):=(Yc B4.out 1).trans rfl)|fail)
  have c0:=HF.out.cell hi;have f0:=HF.out.free i;rw[← HY.out] at c0;go_wp2_with fail;refine bodyPost_end (results_none rfl _ _ _) rfl ⟨rfl,?_,(Ks.of_below HB4.out (fun b=>b=gF)).set (g:=gF) (fun _=>rfl) i _⟩;have e:goS F ⟨(i:Int),false⟩ k=F.set i (y0+k):=by unfold goS;simp[HY.out,Int.sub_eq_add_neg]
  rw[e];exact HF.out.put i _
 ·have hb:=h2 rfl
  have hwr:IntKind.i64.wrap (F.getD i 0+ -k)=F.getD i 0+ -k:=IntWalk.i64_in _ (by omega);have hwn:IntKind.i64.wrap (-k)= -k:=IntWalk.i64_in _ (by omega);clear h1 h2;obtain⟨y0,hy0⟩: ∃ y,y=F.getD i 0:=⟨_,rfl⟩;rw[← hy0] at hwr hb;have HY:=Ya hy0;clear hy0;go_enter Try.func71,Try.ntmps71;go_upto_region 1 with (first|((with_reducible refine gate_dst (N:=3) rfl ?_);refine Yz ?hg (N:=3) ?hd (cs:= #[.int .i64 n0, .bool Zc, .slice A2 l.length c2, .slice (some ⟨gF,0,none⟩) F.length cF]) (t:=104) ?hr ?_;(case hd=>rfl);(case hg=>rfl);(case hr=>first|(go_simp;done)|(go_simp;rfl));intro g3 hg3 w3 Zf hb;have B3:=Ya Zf;have HB3:=Ya hb;have G3:Aside0 (w.heap.size≤g3):=⟨Nat.le_of_eq hg3.symm⟩;clear hg3;have m0_:=Ya (HF.out.below hb);clear HF hb Zf;have HF:=m0_;clear m0_)|((with_reducible refine gate_dst (N:=4) rfl ?_);refine Yz ?hg (N:=4) ?hd (cs:= #[.int .i64 (i:Int), .bool true]) (t:=79) ?hr ?_;(case hd=>rfl);(case hg=>rfl);(case hr=>first|(go_simp;done)|(go_simp;rfl));intro g4 hg4 w4 Zf hb;have B4:=Ya Zf;have G4:Aside0 (w.heap.size≤g4):=⟨Nat.le_trans HB3.out.size (Nat.le_of_eq hg4.symm)⟩;clear hg4;have HB4:=Ya (Yk HB3.out hb);have m0_:=Ya (HF.out.below hb);have m1_:=Ya (Yn B3.out hb);clear HF B3 HB3 hb Zf;have HF:=m0_;have B3:=m1_;clear m0_ m1_;have a3:w4.cell? ⟨g3,3,none⟩=some (.slice (some ⟨gF,0,none⟩) F.length cF):=(Yc B3.out 3).trans rfl;have b0:w4.cell? ⟨g4,0,none⟩=some (.int .i64 (i:Int)):=(Yc B4.out 0).trans rfl;have b1:w4.cell? ⟨g4,1,none⟩=some (.bool true):=(Yc B4.out 1).trans rfl)|fail)
  have c0:=HF.out.cell hi;have f0:=HF.out.free i;rw[← HY.out] at c0;go_wp2_with fail;refine bodyPost_end (results_none rfl _ _ _) rfl ⟨rfl,?_,(Ks.of_below HB4.out (fun b=>b=gF)).set (g:=gF) (fun _=>rfl) i _⟩;have e:goS F ⟨(i:Int),true⟩ k=F.set i (y0+ -k):=by unfold goS;simp[HY.out,Int.sub_eq_add_neg]
  rw[e];exact HF.out.put i _
def minF (l:List S50) (F:List Int):Int→List S79→Int
 |a,[]=>a
 |a,s::L=>minF l F (min a (stRoom l F s)) L
theorem minF_least (l:List S50) (F:List Int): ∀ (L:List S79) (a:Int),L≠[]→minF l F a L=min a (leastR l F L)
 |[],a,h=>absurd rfl h
 |[s],a,_=>rfl
 |s::t::L,a,_=>by
  show minF l F (min a (stRoom l F s)) (t::L)=_;rw[minF_least l F (t::L) _ (by simp)];show _=min a (min (stRoom l F s) (leastR l F (t::L)));omega
theorem minF_cons (l:List S50) (F:List Int) (s:S79) (L:List S79):minF l F (stRoom l F s) L=leastR l F (s::L):=by
 cases L with
 |nil=>rfl
 |cons t L=>rw[minF_least l F (t::L) _ (by simp)];rfl
attribute [local go_sem] max2_int min2_int max_two min_two
set_option maxHeartbeats 2000000 in
set_option maxRecDepth 100000 in
theorem least_calls (n0:Nat) (Zc:Bool) (A2:Option Addr) (c2:Nat) (l:List S50) (A3:Option Addr) (c3:Nat) (F:List Int) (g cW:Nat) (W:List S79) (w:World)
  (hR:Right l F n0) (hW: ∀ s,s∈W→StepOf l s) (hne:0<W.length) (hl:W.length≤1000000) (hcW:W.length≤cW)
  (hc: ∀ (j:Nat) (e:S79),W[j]? =some e→w.cell? ⟨g,j * 2,none⟩=some (.int .i64 e.f0)∧w.cell? ⟨g,j * 2+1,none⟩=some (.bool e.f1))
  (hc2:l.length≤c2) (hc3:F.length≤c3) (h2:Kd.C k50 w A2 l.length l) (h3:Kd.C (Kd.int .i64) w A3 F.length F):
  Calls Try.prog 70 #[.agg #[.int .i64 (n0:Int), .bool Zc, .slice A2 l.length c2, .slice A3 F.length c3], .slice (some ⟨g,0,none⟩) W.length cW] w fun e w'=>e= .returned (.int .i64 (leastR l F W))∧Below w.heap.size w w':=by
 have hu115:=Try.underlying104;have hu38:=Try.underlying79;have HR:=Ya hR;have HC:=Ya hc;have HW:=Ya hW;have HC2:=Ya hc2;have HC3:=Ya hc3;have H2:=Ya h2;have H3:=Ya h3;obtain⟨e0,he0⟩: ∃ e,W[0]? =some e:=⟨_,List.getElem?_eq_getElem hne⟩;have hm0:=List.mem_of_getElem? he0;have HFM:=Ya (room_f hR (hW e0 hm0) (n0:Int) Zc);have HE0:=Ya he0;have p1:(0:Int)<(W.length:Int):=by omega
 have p2:(1:Int)≤(W.length:Int):=by omega
 clear hR hc hW hc2 hc3 h2 h3 he0 hm0;go_enter Try.func70,Try.ntmps70;go_upto_region 1 with (first|((with_reducible refine gate_dst (N:=2) rfl ?_);refine Yz ?hg (N:=2) ?hd (cs:= #[.int .i64 (n0:Int), .bool Zc, .slice A2 l.length c2, .slice A3 F.length c3]) (t:=104) ?hr ?_;(case hd=>rfl);(case hg=>rfl);(case hr=>first|(go_simp;done)|(go_simp;rfl));intro g2 hg2 w3 Zf hb;have B2:=Ya Zf;have HB:=Ya hb;clear hg2 hb Zf)|fail)
 have a0:w3.cell? ⟨g2,0,none⟩=some (.int .i64 n0):=(Yc B2.out 0).trans rfl;have a1:w3.cell? ⟨g2,1,none⟩=some (.bool Zc):=(Yc B2.out 1).trans rfl;have a2:w3.cell? ⟨g2,2,none⟩=some (.slice A2 l.length c2):=(Yc B2.out 2).trans rfl;have a3:w3.cell? ⟨g2,3,none⟩=some (.slice A3 F.length c3):=(Yc B2.out 3).trans rfl;obtain⟨b0,b1⟩:=HC.out 0 e0 HE0.out;replace b0:=pw_cell_below HB.out b0;replace b1:=pw_cell_below HB.out b1;have q0: ∀ p:BelowW w3,p.at_.cell? ⟨g2,0,none⟩=some (.int .i64 n0):=fun p=>p.cell a0
 have q1: ∀ p:BelowW w3,p.at_.cell? ⟨g2,1,none⟩=some (.bool Zc):=fun p=>p.cell a1
 have q2: ∀ p:BelowW w3,p.at_.cell? ⟨g2,2,none⟩=some (.slice A2 l.length c2):=fun p=>p.cell a2
 have q3: ∀ p:BelowW w3,p.at_.cell? ⟨g2,3,none⟩=some (.slice A3 F.length c3):=fun p=>p.cell a3
 have q4: ∀ p:BelowW w3,p.at_.cell? ⟨g,0,none⟩=some (.int .i64 e0.f0):=fun p=>p.cell (by simpa using b0)
 have q5: ∀ p:BelowW w3,p.at_.cell? ⟨g,1,none⟩=some (.bool e0.f1):=fun p=>p.cell (by simpa using b1)
 have HCA:Aside0 (∀ p:BelowW w3,Kd.C k50 p.at_ A2 l.length l):=⟨fun p=>Yt (Yt H2.out HB.out) p.below⟩;have HCF:Aside0 (∀ p:BelowW w3,Kd.C (Kd.int .i64) p.at_ A3 F.length F):=⟨fun p=>Yt (Yt H3.out HB.out) p.below⟩;clear a0 a1 a2 a3 b0 b1;refine wp_region_quiet_below (by kernel_rfl) (by kernel_rfl) ?_;(repeat(quiet_step ((first|(go_at_call 89;exact calls_below_of (static_Flowing_Room.calls (n0:Int) Zc A2 c2 l A3 c3 F e0.f0 e0.f1 _ _ (HCA.out _) HC2.out (HCF.out _) HC3.out HFM.out))))));refine wpQuiet_nil ?_;intro wq hw';obtain⟨⟨wz,hbq⟩,hwq⟩:=hw';subst hwq;have m0_:=Ya (Yk HB.out hbq);have m1_:=Ya (Yn B2.out hbq);clear HB B2 hbq q0 q1 q2 q3 q4 q5 HCA HCF;have HB:=m0_;have B2:=m1_;clear m0_ m1_;go_upto_region 2 with fail
 go_cut [14,15,16] (fun v14 v15 v16 wx=> ∃ oz cz:Nat,v14= .slice (some ⟨g,oz,none⟩) (W.length - 1) cz∧(1<W.length→oz=2)∧v15= .int .i64 ((W.length - 1:Nat):Int)∧v16= .int .i64 0∧wx=wq)
 case first=>
  by_cases hcap:cW=1
  ·have e9:W.length=1:=by omega
   go_wp2_with fail;go_meet;exact⟨0,0,by simp[e9],fun h=>by omega,by simp[e9],rfl,rfl⟩
  ·go_wp2_with fail
   go_meet;exact⟨2,_,rfl,fun h=>rfl,rfl,rfl,rfl⟩
 case rest=>
  obtain⟨oz,cz,rfl,hoz,rfl,rfl,rfl⟩:=hcut;go_wp2_with fail;go_loopw [5,16] (fun v5 v16 w'=> ∃ (a:Int) (j:Nat),v5= .int .i64 a∧v16= .int .i64 (j:Int)∧j+1≤W.length∧Aside0 (minF l F a (W.drop (j+1))=leastR l F W)∧Aside0 (w'.heap[g2]? =some (.cells #[.int .i64 (n0:Int), .bool Zc, .slice A2 l.length c2, .slice A3 F.length c3] 104 (0,0)))∧Aside0 (Below w.heap.size w w')) (fun _ v16 _=>W.length - (intOf v16).toNat)
  case atStart=>exact⟨stRoom l F e0,0,rfl,rfl,by omega,⟨by
   have hd:W=e0::W.drop 1:=by
    obtain⟨h1,h2⟩:=List.getElem?_eq_some_iff.1 HE0.out;have h_:=List.drop_eq_getElem_cons (i:=0) (l:=W) (by omega);rw[List.drop_zero,h2] at h_;exact h_
   rw[Nat.zero_add,minF_cons, ← hd]⟩,B2,HB⟩
  case round=>
   clear B2 HB;obtain⟨a,j,rfl,rfl,hj,HM,B2,HB⟩:=hrel;by_cases hlt:j+1<W.length
   ·have e1:decide ((j:Int)<((W.length - 1:Nat):Int))=true:=Yv (by omega)
    obtain rfl:=hoz (by omega);obtain⟨e,he⟩: ∃ e,W[j+1]? =some e:=⟨_,List.getElem?_eq_getElem hlt⟩;obtain⟨b0,b1⟩:=HC.out (j+1) e he;have b0:wr.cell? ⟨g,2+j * 2,none⟩=some (.int .i64 e.f0):=by rw[show 2+j * 2=(j+1) * 2 by omega];exact pw_cell_below HB.out b0
    have b1:wr.cell? ⟨g,2+j * 2+1,none⟩=some (.bool e.f1):=by rw[show 2+j * 2=(j+1) * 2 by omega];exact pw_cell_below HB.out b1
    have HFM2:=Ya (room_f HR.out (HW.out e (List.mem_of_getElem? he)) (n0:Int) Zc);have hM2:minF l F (min a (stRoom l F e)) (W.drop (j+1+1))=leastR l F W:=by
     rw[← HM.out];obtain⟨h1,h2⟩:=List.getElem?_eq_some_iff.1 he;rw[List.drop_eq_getElem_cons h1,h2];rfl
    obtain⟨rm,hrm⟩: ∃ r_,r_=stRoom l F e:=⟨_,rfl⟩;rw[← hrm] at hM2;rw[← hrm] at HFM2;clear he hrm;have q1:(0:Int)≤(j:Int):=by omega
    have q2:(j:Int)<((W.length - 1:Nat):Int):=by omega
    go_upto_region 5 with fail
    have HN:Aside0 ((wr.alloc (.cells #[.int .i64 e.f0, .bool e.f1] 79)).heap[wr.heap.size]? =some (.cells #[.int .i64 e.f0, .bool e.f1] 79 (0,0))):=⟨heap_alloc_new _ _⟩;have m0_:=Ya (Ye HB.out (.cells #[.int .i64 e.f0, .bool e.f1] 79));have m1_:=Ya (Yn B2.out (Ye (Yo _ _) (.cells #[.int .i64 e.f0, .bool e.f1] 79)));clear HB B2 b0 b1;have HB:=m0_;have B2:=m1_;clear m0_ m1_;generalize wr.alloc (.cells #[.int .i64 e.f0, .bool e.f1] 79)=w5 at *;generalize wr.heap.size=g7 at *;have a0:w5.cell? ⟨g2,0,none⟩=some (.int .i64 n0):=(Yc B2.out 0).trans rfl;have a1:w5.cell? ⟨g2,1,none⟩=some (.bool Zc):=(Yc B2.out 1).trans rfl;have a2:w5.cell? ⟨g2,2,none⟩=some (.slice A2 l.length c2):=(Yc B2.out 2).trans rfl;have a3:w5.cell? ⟨g2,3,none⟩=some (.slice A3 F.length c3):=(Yc B2.out 3).trans rfl;have b0:w5.cell? ⟨g7,0,none⟩=some (.int .i64 e.f0):=(Yc HN.out 0).trans rfl;have b1:w5.cell? ⟨g7,1,none⟩=some (.bool e.f1):=(Yc HN.out 1).trans rfl;have hmn:(if rm<a then rm else a)=min a rm:=by split<;>omega
    go_wp2_with (first|(go_at_call 89;refine(static_Flowing_Room.calls (n0:Int) Zc A2 c2 l A3 c3 F e.f0 e.f1 _ _ (Yt H2.out HB.out) HC2.out (Yt H3.out HB.out) HC3.out HFM2.out).mono ?_;rintro e_ w6 ⟨rfl,hb⟩;have m0_:=Ya (Yk HB.out hb);have m1_:=Ya (Yn B2.out hb);clear HB B2 a0 a1 a2 a3 b0 b1 hb;have HB:=m0_;have B2:=m1_;clear m0_ m1_)|fail);go_roundw
    case rel=>exact⟨min a rm,j+1,rfl,by go_num,by omega,⟨hM2⟩,B2,HB⟩
    case measure=>show W.length - ((j:Int)+1).toNat<W.length - (j:Int).toNat;omega
   ·have e1:decide ((j:Int)<((W.length - 1:Nat):Int))=false:=Yw (by omega)
    have hr:a=leastR l F W:=by
     rw[← HM.out,List.drop_of_length_le (by omega)];rfl
    have HRR:=Ya hr;clear hr;go_wp2_with fail;go_ret;exact⟨by rw[← HRR.out];rfl,HB.out⟩
end H
namespace P
attribute [local go_sem] max2_int min2_int max_two min_two max_three min_three max_four min_four
def ebbtideref07_Ends.f (k:Nat) (Zb:Int) (Zc:Bool) (Za:List (S50)) (a1:Int) (a2:Int):Option (Int):=(ebbtideref05_Check.f k Zb Zc Za).bind fun t192=>(if t192=0 then((ebbtideref06_Node.f Zb Zc Za a1).bind fun t193=>(if t193=true then((ebbtideref06_Node.f Zb Zc Za a2).bind fun t194=>(if t194=true then(if a1=a2 then(some 70) else(some 0)) else(some 70))) else(some 70))) else(some t192))
set_option maxHeartbeats 8000000 in
set_option maxRecDepth 100000 in
theorem ebbtideref07_Ends.calls (k:Nat) (Zb:Int) (Zc:Bool) (Ze:Option Addr) (Zd:Nat) (Za:List (S50)) (a1:Int) (a2:Int) (r:Int) (w:World) (Zo:Kd.C k50 w Ze Za.length Za) (Zp:Za.length≤Zd) (h:ebbtideref07_Ends.f k Zb Zc Za a1 a2=some r):
  Calls Try.prog 27 #[.agg #[.int .i64 Zb, .bool Zc, .slice Ze Za.length Zd], .int .i64 a1, .int .i64 a2] w fun e w'=>e= .returned (.int .i64 r)∧Below w.heap.size w w':=by
 have hu24:=Try.underlying24;have Zk:=Ya Zo;have Zm:=Ya Zp;clear Zo Zp;have HB:=Ya (Yo w.heap.size w);have H:=h;unfold ebbtideref07_Ends.f at H;clear h;replace H:=Option.bind_eq_some_iff.mp H;obtain⟨t192,A40,H⟩:=H;try dsimp only at H
 have A4:=Ya A40;clear A40;by_cases c5:t192=0
 rotate_left
 ·rw[Yy c5] at H
  have c5b0:(t192 == 0)=false:=beq_eq_false_iff_ne.mpr c5;have c5b1:(t192 != 0)=true:=bne_iff_ne.mpr c5;obtain rfl:=Option.some.inj H;go_enter Try.func27,Try.ntmps27;go_wp2_with (first|(refine bx 3 24 #[.int .i64 Zb, .bool Zc, .slice Ze Za.length Zd] ?_;intro Xt hg w37 Zf hb;have Zt:=Ya (Zf);have GW191:=Ya (by rw[hg];exact(Yi HB.out):w.heap.size≤Xt);have GE191:=Ya (by rw[hg];exact(Yi HB.out):w.heap.size≤Xt);replace HB:=Ya (Yk HB.out hb);clear hb Zf hg;have hcz38_0:w37.cell? ⟨Xt,0,none⟩=some (.int .i64 Zb):=bc Zt 0;have hcz38_1:w37.cell? ⟨Xt,1,none⟩=some (.bool Zc):=bc Zt 1;have hcz38_2:w37.cell? ⟨Xt,2,none⟩=some (.slice Ze Za.length Zd):=bc Zt 2;have hfz38_0:=Yf Zt.out 0;have hfz38_1:=Yf Zt.out 1;have hfz38_2:=Yf Zt.out 2)|((with_reducible refine gate_callee (f:=30) rfl ?_);refine gl (some 9) Try.func30 #[.agg #[.int .i64 Zb, .bool Zc, .slice Ze Za.length Zd]] ?_;(with_reducible refine(ebbtideref05_Check.calls k Zb Zc _ _ Za t192 _ ?side1 ?side2 A4.out).mono ?_);(case side1=>exact kC (Yt Zk.out HB.out));(case side2=>exact Zm.out);rintro e w39 ⟨rfl,hb⟩;refine⟨_,rfl,?_⟩;replace Zt:=Ya (Yn Zt.out hb);replace HB:=Ya (Yk HB.out hb);(try clear hb)));go_ret;exact⟨by first|rfl|(simp[errW_none,errW_some]<;>rfl)|(simp[*,errW_none,errW_some]<;>rfl),HB.out⟩
 rw[Yx c5] at H;have c5b0:(t192 == 0)=true:=beq_iff_eq.mpr c5;have c5b1:(t192 != 0)=false:=bne_eq_false_iff_eq.mpr c5;clear c5;replace H:=Option.bind_eq_some_iff.mp H;obtain⟨t193,A60,H⟩:=H;try dsimp only at H
 have A6:=Ya A60;clear A60;by_cases c7:t193=true
 rotate_left
 ·replace c7:=Bool.eq_false_iff.mpr c7
  subst c7;rw[Yy (show ¬ (false=true) by decide)] at H;obtain rfl:=Option.some.inj H;go_enter Try.func27,Try.ntmps27;go_wp2_with (first|(refine bx 3 24 #[.int .i64 Zb, .bool Zc, .slice Ze Za.length Zd] ?_;intro Xt hg w32 Zf hb;have Zt:=Ya (Zf);have GW191:=Ya (by rw[hg];exact(Yi HB.out):w.heap.size≤Xt);have GE191:=Ya (by rw[hg];exact(Yi HB.out):w.heap.size≤Xt);replace HB:=Ya (Yk HB.out hb);clear hb Zf hg;have hcz33_0:w32.cell? ⟨Xt,0,none⟩=some (.int .i64 Zb):=bc Zt 0;have hcz33_1:w32.cell? ⟨Xt,1,none⟩=some (.bool Zc):=bc Zt 1;have hcz33_2:w32.cell? ⟨Xt,2,none⟩=some (.slice Ze Za.length Zd):=bc Zt 2;have hfz33_0:=Yf Zt.out 0;have hfz33_1:=Yf Zt.out 1;have hfz33_2:=Yf Zt.out 2)|((with_reducible refine gate_callee (f:=30) rfl ?_);refine gl (some 9) Try.func30 #[.agg #[.int .i64 Zb, .bool Zc, .slice Ze Za.length Zd]] ?_;(with_reducible refine(ebbtideref05_Check.calls k Zb Zc _ _ Za t192 _ ?side1 ?side2 A4.out).mono ?_);(case side1=>exact kC (Yt Zk.out HB.out));(case side2=>exact Zm.out);rintro e w34 ⟨rfl,hb⟩;refine⟨_,rfl,?_⟩;replace Zt:=Ya (Yn Zt.out hb);replace HB:=Ya (Yk HB.out hb);(try clear hb);have hcz35_0:w34.cell? ⟨Xt,0,none⟩=some (.int .i64 Zb):=bc Zt 0;have hcz35_1:w34.cell? ⟨Xt,1,none⟩=some (.bool Zc):=bc Zt 1;have hcz35_2:w34.cell? ⟨Xt,2,none⟩=some (.slice Ze Za.length Zd):=bc Zt 2;have hfz35_0:=Yf Zt.out 0;have hfz35_1:=Yf Zt.out 1;have hfz35_2:=Yf Zt.out 2)|((with_reducible refine gate_callee (f:=58) rfl ?_);refine gl (some 15) Try.func58 #[.agg #[.int .i64 Zb, .bool Zc, .slice Ze Za.length Zd], .int .i64 a1] ?_;(with_reducible refine(ebbtideref06_Node.calls Zb Zc _ _ Za a1 false _ ?side1 ?side2 A6.out).mono ?_);(case side1=>exact kC (Yt Zk.out HB.out));(case side2=>exact Zm.out);rintro e w36 ⟨rfl,hb⟩;refine⟨_,rfl,?_⟩;replace Zt:=Ya (Yn Zt.out hb);replace HB:=Ya (Yk HB.out hb);(try clear hb);(try clear hb2);(try clear hk);(try clear hi)));go_ret;exact⟨by first|rfl|(simp[errW_none,errW_some]<;>rfl)|(simp[*,errW_none,errW_some]<;>rfl),HB.out⟩
 subst c7;first|rw[Yx rfl] at H|rw[Yx trivial] at H
 replace H:=Option.bind_eq_some_iff.mp H;obtain⟨t194,A80,H⟩:=H;try dsimp only at H
 have A8:=Ya A80;clear A80;by_cases c9:t194=true
 rotate_left
 ·replace c9:=Bool.eq_false_iff.mpr c9
  subst c9;rw[Yy (show ¬ (false=true) by decide)] at H;obtain rfl:=Option.some.inj H;go_enter Try.func27,Try.ntmps27;go_wp2_with (first|(refine bx 3 24 #[.int .i64 Zb, .bool Zc, .slice Ze Za.length Zd] ?_;intro Xt hg w25 Zf hb;have Zt:=Ya (Zf);have GW191:=Ya (by rw[hg];exact(Yi HB.out):w.heap.size≤Xt);have GE191:=Ya (by rw[hg];exact(Yi HB.out):w.heap.size≤Xt);replace HB:=Ya (Yk HB.out hb);clear hb Zf hg;have hcz26_0:w25.cell? ⟨Xt,0,none⟩=some (.int .i64 Zb):=bc Zt 0;have hcz26_1:w25.cell? ⟨Xt,1,none⟩=some (.bool Zc):=bc Zt 1;have hcz26_2:w25.cell? ⟨Xt,2,none⟩=some (.slice Ze Za.length Zd):=bc Zt 2;have hfz26_0:=Yf Zt.out 0;have hfz26_1:=Yf Zt.out 1;have hfz26_2:=Yf Zt.out 2)|((with_reducible refine gate_callee (f:=30) rfl ?_);refine gl (some 9) Try.func30 #[.agg #[.int .i64 Zb, .bool Zc, .slice Ze Za.length Zd]] ?_;(with_reducible refine(ebbtideref05_Check.calls k Zb Zc _ _ Za t192 _ ?side1 ?side2 A4.out).mono ?_);(case side1=>exact kC (Yt Zk.out HB.out));(case side2=>exact Zm.out);rintro e w27 ⟨rfl,hb⟩;refine⟨_,rfl,?_⟩;replace Zt:=Ya (Yn Zt.out hb);replace HB:=Ya (Yk HB.out hb);(try clear hb);have hcz28_0:w27.cell? ⟨Xt,0,none⟩=some (.int .i64 Zb):=bc Zt 0;have hcz28_1:w27.cell? ⟨Xt,1,none⟩=some (.bool Zc):=bc Zt 1;have hcz28_2:w27.cell? ⟨Xt,2,none⟩=some (.slice Ze Za.length Zd):=bc Zt 2;have hfz28_0:=Yf Zt.out 0;have hfz28_1:=Yf Zt.out 1;have hfz28_2:=Yf Zt.out 2)|((with_reducible refine gate_callee (f:=58) rfl ?_);refine gl (some 15) Try.func58 #[.agg #[.int .i64 Zb, .bool Zc, .slice Ze Za.length Zd], .int .i64 a1] ?_;(with_reducible refine(ebbtideref06_Node.calls Zb Zc _ _ Za a1 true _ ?side1 ?side2 A6.out).mono ?_);(case side1=>exact kC (Yt Zk.out HB.out));(case side2=>exact Zm.out);rintro e w29 ⟨rfl,hb⟩;refine⟨_,rfl,?_⟩;replace Zt:=Ya (Yn Zt.out hb);replace HB:=Ya (Yk HB.out hb);(try clear hb);(try clear hb2);(try clear hk);(try clear hi);have hcz30_0:w29.cell? ⟨Xt,0,none⟩=some (.int .i64 Zb):=bc Zt 0;have hcz30_1:w29.cell? ⟨Xt,1,none⟩=some (.bool Zc):=bc Zt 1;have hcz30_2:w29.cell? ⟨Xt,2,none⟩=some (.slice Ze Za.length Zd):=bc Zt 2;have hfz30_0:=Yf Zt.out 0;have hfz30_1:=Yf Zt.out 1;have hfz30_2:=Yf Zt.out 2)|(go_at_call 58;(with_reducible refine(ebbtideref06_Node.calls Zb Zc _ _ Za a2 false _ ?side1 ?side2 A8.out).mono ?_);(case side1=>exact kC (Yt Zk.out HB.out));(case side2=>exact Zm.out);rintro e w31 ⟨rfl,hb⟩;replace Zt:=Ya (Yn Zt.out hb);replace HB:=Ya (Yk HB.out hb);(try clear hb);(try clear hb2);(try clear hk);(try clear hi)));go_ret;exact⟨by first|rfl|(simp[errW_none,errW_some]<;>rfl)|(simp[*,errW_none,errW_some]<;>rfl),HB.out⟩
 subst c9;first|rw[Yx rfl] at H|rw[Yx trivial] at H
 by_cases c10:a1=a2
 rotate_left
 ·rw[Yy c10] at H
  have c10b0:(a1 == a2)=false:=beq_eq_false_iff_ne.mpr c10;have c10b1:(a1 != a2)=true:=bne_iff_ne.mpr c10;obtain rfl:=Option.some.inj H;go_enter Try.func27,Try.ntmps27;go_wp2_with (first|(refine bx 3 24 #[.int .i64 Zb, .bool Zc, .slice Ze Za.length Zd] ?_;intro Xt hg w18 Zf hb;have Zt:=Ya (Zf);have GW191:=Ya (by rw[hg];exact(Yi HB.out):w.heap.size≤Xt);have GE191:=Ya (by rw[hg];exact(Yi HB.out):w.heap.size≤Xt);replace HB:=Ya (Yk HB.out hb);clear hb Zf hg;have hcz19_0:w18.cell? ⟨Xt,0,none⟩=some (.int .i64 Zb):=bc Zt 0;have hcz19_1:w18.cell? ⟨Xt,1,none⟩=some (.bool Zc):=bc Zt 1;have hcz19_2:w18.cell? ⟨Xt,2,none⟩=some (.slice Ze Za.length Zd):=bc Zt 2;have hfz19_0:=Yf Zt.out 0;have hfz19_1:=Yf Zt.out 1;have hfz19_2:=Yf Zt.out 2)|((with_reducible refine gate_callee (f:=30) rfl ?_);refine gl (some 9) Try.func30 #[.agg #[.int .i64 Zb, .bool Zc, .slice Ze Za.length Zd]] ?_;(with_reducible refine(ebbtideref05_Check.calls k Zb Zc _ _ Za t192 _ ?side1 ?side2 A4.out).mono ?_);(case side1=>exact kC (Yt Zk.out HB.out));(case side2=>exact Zm.out);rintro e w20 ⟨rfl,hb⟩;refine⟨_,rfl,?_⟩;replace Zt:=Ya (Yn Zt.out hb);replace HB:=Ya (Yk HB.out hb);(try clear hb);have hcz21_0:w20.cell? ⟨Xt,0,none⟩=some (.int .i64 Zb):=bc Zt 0;have hcz21_1:w20.cell? ⟨Xt,1,none⟩=some (.bool Zc):=bc Zt 1;have hcz21_2:w20.cell? ⟨Xt,2,none⟩=some (.slice Ze Za.length Zd):=bc Zt 2;have hfz21_0:=Yf Zt.out 0;have hfz21_1:=Yf Zt.out 1;have hfz21_2:=Yf Zt.out 2)|((with_reducible refine gate_callee (f:=58) rfl ?_);refine gl (some 15) Try.func58 #[.agg #[.int .i64 Zb, .bool Zc, .slice Ze Za.length Zd], .int .i64 a1] ?_;(with_reducible refine(ebbtideref06_Node.calls Zb Zc _ _ Za a1 true _ ?side1 ?side2 A6.out).mono ?_);(case side1=>exact kC (Yt Zk.out HB.out));(case side2=>exact Zm.out);rintro e w22 ⟨rfl,hb⟩;refine⟨_,rfl,?_⟩;replace Zt:=Ya (Yn Zt.out hb);replace HB:=Ya (Yk HB.out hb);(try clear hb);(try clear hb2);(try clear hk);(try clear hi);have hcz23_0:w22.cell? ⟨Xt,0,none⟩=some (.int .i64 Zb):=bc Zt 0;have hcz23_1:w22.cell? ⟨Xt,1,none⟩=some (.bool Zc):=bc Zt 1;have hcz23_2:w22.cell? ⟨Xt,2,none⟩=some (.slice Ze Za.length Zd):=bc Zt 2;have hfz23_0:=Yf Zt.out 0;have hfz23_1:=Yf Zt.out 1;have hfz23_2:=Yf Zt.out 2)|(go_at_call 58;(with_reducible refine(ebbtideref06_Node.calls Zb Zc _ _ Za a2 true _ ?side1 ?side2 A8.out).mono ?_);(case side1=>exact kC (Yt Zk.out HB.out));(case side2=>exact Zm.out);rintro e w24 ⟨rfl,hb⟩;replace Zt:=Ya (Yn Zt.out hb);replace HB:=Ya (Yk HB.out hb);(try clear hb);(try clear hb2);(try clear hk);(try clear hi)));go_ret;exact⟨by first|rfl|(simp[errW_none,errW_some]<;>rfl)|(simp[*,errW_none,errW_some]<;>rfl),HB.out⟩
 rw[Yx c10] at H;have c10b0:(a1 == a2)=true:=beq_iff_eq.mpr c10;have c10b1:(a1 != a2)=false:=bne_eq_false_iff_eq.mpr c10;clear c10;obtain rfl:=Option.some.inj H;go_enter Try.func27,Try.ntmps27;go_wp2_with (first|(refine bx 3 24 #[.int .i64 Zb, .bool Zc, .slice Ze Za.length Zd] ?_;intro Xt hg w11 Zf hb;have Zt:=Ya (Zf);have GW191:=Ya (by rw[hg];exact(Yi HB.out):w.heap.size≤Xt);have GE191:=Ya (by rw[hg];exact(Yi HB.out):w.heap.size≤Xt);replace HB:=Ya (Yk HB.out hb);clear hb Zf hg;have Jw:w11.cell? ⟨Xt,0,none⟩=some (.int .i64 Zb):=bc Zt 0;have Jx:w11.cell? ⟨Xt,1,none⟩=some (.bool Zc):=bc Zt 1;have Jy:w11.cell? ⟨Xt,2,none⟩=some (.slice Ze Za.length Zd):=bc Zt 2;have Jz:=Yf Zt.out 0;have hfz12_1:=Yf Zt.out 1;have hfz12_2:=Yf Zt.out 2)|((with_reducible refine gate_callee (f:=30) rfl ?_);refine gl (some 9) Try.func30 #[.agg #[.int .i64 Zb, .bool Zc, .slice Ze Za.length Zd]] ?_;(with_reducible refine(ebbtideref05_Check.calls k Zb Zc _ _ Za t192 _ ?side1 ?side2 A4.out).mono ?_);(case side1=>exact kC (Yt Zk.out HB.out));(case side2=>exact Zm.out);rintro e w13 ⟨rfl,hb⟩;refine⟨_,rfl,?_⟩;replace Zt:=Ya (Yn Zt.out hb);replace HB:=Ya (Yk HB.out hb);(try clear hb);have Vu:w13.cell? ⟨Xt,0,none⟩=some (.int .i64 Zb):=bc Zt 0;have Uc:w13.cell? ⟨Xt,1,none⟩=some (.bool Zc):=bc Zt 1;have Ud:w13.cell? ⟨Xt,2,none⟩=some (.slice Ze Za.length Zd):=bc Zt 2;have Ue:=Yf Zt.out 0;have Uf:=Yf Zt.out 1;have Ug:=Yf Zt.out 2)|((with_reducible refine gate_callee (f:=58) rfl ?_);refine gl (some 15) Try.func58 #[.agg #[.int .i64 Zb, .bool Zc, .slice Ze Za.length Zd], .int .i64 a1] ?_;(with_reducible refine(ebbtideref06_Node.calls Zb Zc _ _ Za a1 true _ ?side1 ?side2 A6.out).mono ?_);(case side1=>exact kC (Yt Zk.out HB.out));(case side2=>exact Zm.out);rintro e w15 ⟨rfl,hb⟩;refine⟨_,rfl,?_⟩;replace Zt:=Ya (Yn Zt.out hb);replace HB:=Ya (Yk HB.out hb);(try clear hb);(try clear hb2);(try clear hk);(try clear hi);have Ut:w15.cell? ⟨Xt,0,none⟩=some (.int .i64 Zb):=bc Zt 0;have Uu:w15.cell? ⟨Xt,1,none⟩=some (.bool Zc):=bc Zt 1;have hcz16_2:w15.cell? ⟨Xt,2,none⟩=some (.slice Ze Za.length Zd):=bc Zt 2;have Uv:=Yf Zt.out 0;have Uw:=Yf Zt.out 1;have hfz16_2:=Yf Zt.out 2)|(go_at_call 58;(with_reducible refine(ebbtideref06_Node.calls Zb Zc _ _ Za a2 true _ ?side1 ?side2 A8.out).mono ?_);(case side1=>exact kC (Yt Zk.out HB.out));(case side2=>exact Zm.out);rintro e w17 ⟨rfl,hb⟩;replace Zt:=Ya (Yn Zt.out hb);replace HB:=Ya (Yk HB.out hb);(try clear hb);(try clear hb2);(try clear hk);(try clear hi)));go_ret;exact⟨by first|rfl|(simp[errW_none,errW_some]<;>rfl)|(simp[*,errW_none,errW_some]<;>rfl),HB.out⟩
end P
namespace Q
open P
open H (endsErr)
theorem ends_ev (n:Int) (b:Bool) (l:List S50) (s t:Int):Ev (fun k=>static_Ends.f k n b l s t) (endsErr n l s t):=by
 unfold static_Ends.f endsErr;refine Ev.bind (check_ev n b l) ?_;refine Ev.ite (fun h=> ?_) (fun h=> ?_)
 ·rw[Yx h]
  refine Ev.ite (fun g=> ?_) (fun g=> ?_)
  ·exact Ev.done (by unfold mn at g;rw[Yy (by omega)])
  ·unfold mn at g
   refine Ev.ite (fun g2=> ?_) (fun g2=> ?_)
   ·exact Ev.done (by unfold mx at g2;rw[Yy (by omega)])
   ·unfold mx at g2
    refine Ev.ite (fun g3=> ?_) (fun g3=> ?_)
    ·exact Ev.done (by rw[Yy (by omega)])
    ·exact Ev.done (by rw[Yx (by omega)])
 ·rw[Yy h]
  exact Ev.now _
theorem ref_ends_ev (n:Int) (b:Bool) (l:List S50) (s t:Int):Ev (fun k=>ebbtideref07_Ends.f k n b l s t) (endsErr n l s t):=by
 unfold ebbtideref07_Ends.f endsErr;refine Ev.bind (ref_check_ev n b l) ?_;refine Ev.ite (fun h=> ?_) (fun h=> ?_)
 ·rw[Yx h]
  refine Ev.call (node_eq n b l s) ?_;refine Ev.ite (fun g=> ?_) (fun g=> ?_)
  ·have g:=Yu g
   refine Ev.call (node_eq n b l t) ?_;refine Ev.ite (fun g2=> ?_) (fun g2=> ?_)
   ·have g2:=Yu g2
    refine Ev.ite (fun g3=> ?_) (fun g3=> ?_)
    ·exact Ev.done (by rw[Yy (by omega)])
    ·exact Ev.done (by rw[Yx (by omega)])
   ·have g2:=of_decide_eq_false (Bool.eq_false_iff.2 g2)
    exact Ev.done (by rw[Yy (by omega)])
  ·have g:=of_decide_eq_false (Bool.eq_false_iff.2 g)
   exact Ev.done (by rw[Yy (by omega)])
 ·rw[Yy h]
  exact Ev.now _
end Q
namespace H
open P Q
theorem right_of {n:Int} {l:List S50} {F:List Int} (h:askErr n l F=0): ∃ n0:Nat,n=n0∧Right l F n0:=by
 obtain⟨hn,hf⟩:=askErr_ok h;have h1:=hn.lo;have h2:=hn.hi;obtain⟨n0,rfl⟩: ∃ n0:Nat,n=n0:=⟨n.toNat,by omega⟩;refine⟨n0,rfl,⟨by omega,by omega,hn.len,hf.len,fun i hi=> ?_,fun i hi=> ?_⟩⟩
 ·have ha:=hn.at_ (i:=(i:Int)) (by omega) (by omega)
  exact⟨⟨ha.f0,ha.h0⟩,⟨ha.f1,ha.h1⟩⟩
 ·have ha:=hn.at_ (i:=(i:Int)) (by omega) (by omega)
  have hb:=hf.at_ i (by rw[hf.len];exact hi);rw[rd_nat] at hb;exact⟨ha.f3,ha.h3,hb.1,hb.2,ha.h2⟩
end H
namespace Q
open P
open H (endsErr Right right_of)
theorem ends_zero {n:Int} {l:List S50} {s t:Int} (h:endsErr n l s t=0): ∃ n0 s0 t0:Nat,n=n0∧s=s0∧t=t0∧s0<n0∧t0<n0∧s0≠t0∧NetOk n0 l∧Right l (List.replicate l.length 0) n0:=by
 have hb:NetOk n l∧0≤s∧s<n∧0≤t∧t<n∧s≠t:=by
  unfold endsErr at h;by_cases hn:netErr n l=0
  ·rw[Yx hn] at h
   split at h
   ·rename_i he
    exact⟨netErr_ok hn,he⟩
   ·cases h
  ·rw[Yy hn] at h;exact absurd h hn
 obtain⟨hn,h1,h2,h3,h4,h5⟩:=hb;have hz:FlowOk l (List.replicate l.length 0):=by
  refine⟨by simp,fun i hi=> ?_⟩;rw[List.length_replicate] at hi;have ha:=(hn.at_ (i:=(i:Int)) (by omega) (by omega)).f2;rw[rd_nat,List.getD_eq_getElem?_getD,List.getElem?_replicate,Yx hi];exact⟨Int.le_refl _,ha⟩
 obtain⟨n0,rfl,hr⟩:=right_of (ask_of hn hz);exact⟨n0,s.toNat,t.toNat,rfl,by omega,by omega,by omega,by omega,by omega,hn,hr⟩
end Q
namespace H
open P
section
variable {n0:Nat} {Zc:Bool} {A2:Option Addr} {c2:Nat} {l:List S50} {gF cF:Nat} {A4:Option Addr} {c4 gx gd gn B:Nat} {F D:List Int} {nx:List Nat} {w w1:World}
theorem isI_C {g:Nat} {X:List Int} (h:IsI w g X) (hl:X.length≤9223372036854775807):Kd.C (Kd.int .i64) w (some ⟨g,0,none⟩) X.length X:=(Kd.R_reads' (h.R hl (base:=0) (Nat.zero_le _) (ok:=fun _=>True) trivial)).2.2
end
end H
namespace H
open P
open Q (bal)
theorem pushW_snoc (F:List Int) (k:Int) (L:List S79) (e:S79):pushW F k (L ++ [e])=goS (pushW F k L) e k:=by unfold pushW;rw[List.foldl_append];rfl
theorem Right.take {l:List S50} {F:List Int} {n:Nat} {k:Int} (h0:0≤k) (hr:Right l F n) {L:List S79} (h: ∀ s,s∈L→StepOf l s∧k≤stRoom l F s) (hp:L.Pairwise (fun a b=>a.f0≠b.f0)) (j:Nat):Right l (H.pushW F k (L.take j)) n:=
 Right.pushW h0 _ hr (fun s hs=>h s (List.mem_of_mem_take hs)) (hp.sublist (List.take_sublist _ _))
theorem take_snoc {L:List S79} {j:Nat} {e:S79} (h:L[j]? =some e):L.take (j+1)=L.take j ++ [e]:=by
 rw[List.take_add_one,h];rfl
theorem ks_cellF {gF g j:Nat} {w w1:World} {v:Value} (h:Ks (fun b=>b=gF) w w1) (hc:w.cell? ⟨g,j,none⟩=some v) (hne: ¬ g=gF):w1.cell? ⟨g,j,none⟩=some v:=by
 have hb:=h.block g (Yb w _ hc) hne
 simpa [World.cell?,hb] using hc
end H
namespace H
open P
open Q (bal ends_zero)
theorem made_ints (n:Nat) (hn:n≤500): ∀ W:World,(Instr.makeSlice 31 (.int .i64 (n:Int)) (.int .i64 (n:Int))).run Try.prog W= .ok (.slice (some ⟨W.heap.size,0,none⟩) n n) (W.alloc (.cells (nums .i64 (List.replicate n 0)).toArray 3)):=by
 intro W;rw[print_make 31 3 .i64 8 Try.underlying31 (by kernel_rfl) (by omega) n (by omega) W];have hl:(madeCells #[Value.int .i64 0] n)=(nums .i64 (List.replicate n 0)).toArray:=by
  apply Array.ext';apply List.ext_getElem
  ·simp[nums,madeCells]
  ·intro i h1 h2
   simp[nums,madeCells,Nat.mod_one]
 rw[hl]
end H
namespace H
open P
open Q (bal ends_zero)
def fillRes (l:List S50) (n s t:Nat) (H:Int):List Int × List Int × List Bool × List S79:=(fillS l n s t H,(reachS l (fillS l n s t H) n s).D,(reachS l (fillS l n s t H) n s).I,(reachS l (fillS l n s t H) n s).B)
def Ss (n0:Nat) (l:List S50) (s t:Nat) (Hz:Int) (R:List Int) (gF g4 g9:Nat) (Zc:Bool) (A2:Option Addr) (c2:Nat) (w w':World) (k:Nat):Prop:=
 ∃ F:List Int,SpanOk l F n0 s t (Hz+1)∧209715200<(k:Int)+bal l F s∧spanS l n0 s t Hz k F=R∧IsI w' gF F∧w'.heap[g4]? =some (.cells #[.int .i64 (n0:Int), .bool Zc, .slice A2 l.length c2] 24 (0,0))∧w'.heap[g9]? =some (.cells #[.slice none 0 0, .slice none 0 0, .slice none 0 0] 69 (0,0))∧Below w.heap.size w w'
set_option maxHeartbeats 20000000 in
set_option maxRecDepth 100000 in
theorem fill_core (n0:Nat) (Zc:Bool) (Ze:Option Addr) (Zd:Nat) (l:List S50) (s t:Nat) (a3:Int) (w:World) (hr:Right l (List.replicate l.length 0) n0) (hs:s<n0) (ht:t<n0) (hst:s≠t) (hH:0≤a3) (hC:Kd.C k50 w Ze l.length l) (hc:l.length≤Zd):
  Calls Try.prog 35 #[.agg #[.int .i64 (n0:Int), .bool Zc, .slice Ze l.length Zd], .int .i64 (s:Int), .int .i64 (t:Int), .int .i64 a3] w fun e w'=> ∃ v0_ v1_ v2_ v3_:Value,e= .returned (.tuple #[v0_, .agg #[v1_,v2_,v3_]])∧Kd.R (Kd.int .i64) 3 w' w.heap.size (fun k_=>some k_≠(v1_:Value).ownBlock) v0_ (fillS l n0 s t a3)∧Kd.R (Kd.int .i64) 3 w' w.heap.size (fun k_=>some k_≠(v0_:Value).ownBlock) v1_ (reachS l (fillS l n0 s t a3) n0 s).D∧Kd.R Kd.bool 4 w' w.heap.size (fun _=>True) v2_ (reachS l (fillS l n0 s t a3) n0 s).I∧Kd.R k79 79 w' w.heap.size (fun _=>True) v3_ (reachS l (fillS l n0 s t a3) n0 s).B∧Below w.heap.size w w':=by
 have hu24:=Try.underlying24;have hu109:=Try.underlying69;have hu118:=Try.underlying107;have hu115:=Try.underlying104;have hu38:=Try.underlying79;have hn50:=hr.fifty;have harc:=hr.arcs;have hmk:=made_ints l.length (by omega);obtain⟨R,hR⟩: ∃ R,R=fillS l n0 s t a3:=⟨_,rfl⟩;rw[← hR];have HRR:Aside0 (spanS l n0 s t a3 300000000 (List.replicate l.length 0)=R):=⟨hR.symm⟩;have H0:=Ya (span_zero (t:=t) (s:=s) hr (c:=a3+1) (by omega));have HZ:=Ya (zeros_of (s:=s) (t:=t) hr).2;have H2:=Ya hC;have HC2:=Ya hc;clear hr hR hC hc;go_enter Try.func35,Try.ntmps35;go_upto_region 1 with (first|((with_reducible refine gate_dst (N:=4) rfl ?_);refine Yz ?hg (N:=4) ?hd (cs:= #[.int .i64 (n0:Int), .bool Zc, .slice Ze l.length Zd]) (t:=24) ?hr ?_;(case hd=>rfl);(case hg=>rfl);(case hr=>first|(go_simp;done)|(go_simp;rfl));intro g4 hg4 w5 Zf hb;have B4:=Ya Zf;have HB:=Ya hb;have HG4:Aside0 (w.heap.size≤g4):=⟨Nat.le_of_eq hg4.symm⟩;clear hg4 Zf hb)|fail)
 have B9:Aside0 ((w5.alloc (.cells #[.slice none 0 0, .slice none 0 0, .slice none 0 0] 69)).heap[w5.heap.size]? =some (.cells #[.slice none 0 0, .slice none 0 0, .slice none 0 0] 69 (0,0))):=⟨heap_alloc_new w5 _⟩;have m0_:=Ya (Yn B4.out (Ye (Yo _ _) (.cells #[.slice none 0 0, .slice none 0 0, .slice none 0 0] 69)));have m1_:=Ya (Ye HB.out (.cells #[.slice none 0 0, .slice none 0 0, .slice none 0 0] 69));have hg49:g4<w5.heap.size:=blk_lt B4.out;have hg9w:w.heap.size≤w5.heap.size:=HB.out.size;clear B4 HB;have B4:=m0_;have HB:=m1_;clear m0_ m1_;generalize w5.alloc (.cells #[.slice none 0 0, .slice none 0 0, .slice none 0 0] 69)=w6 at *;generalize w5.heap.size=g9 at *;have x2:w6.cell? ⟨g4,2,none⟩=some (.slice Ze l.length Zd):=(Yc B4.out 2).trans rfl;go_step3;go_wp2_with fail;go_step3;go_wp2_with fail;have hIA:Aside0 (IsI (w6.alloc (.cells (nums .i64 (List.replicate l.length 0)).toArray 3)) w6.heap.size (List.replicate l.length 0)):=⟨heap_alloc_new w6 _⟩;have m0_:=Ya (Yn B4.out (Ye (Yo _ _) (.cells (nums .i64 (List.replicate l.length 0)).toArray 3)));have m1_:=Ya (Yn B9.out (Ye (Yo _ _) (.cells (nums .i64 (List.replicate l.length 0)).toArray 3)));have m2_:=Ya (Ye HB.out (.cells (nums .i64 (List.replicate l.length 0)).toArray 3));have hgF:w.heap.size≤w6.heap.size∧g4≠w6.heap.size∧g9≠w6.heap.size:=⟨HB.out.size,by have:=blk_lt B4.out;omega,by have:=blk_lt B9.out;omega⟩;clear B4 B9 HB x2 hmk;have B4:=m0_;have B9:=m1_;have HB:=m2_;clear m0_ m1_ m2_;generalize w6.alloc (.cells (nums .i64 (List.replicate l.length 0)).toArray 3)=w7 at *;generalize w6.heap.size=gF at *;go_loopw [] (fun w'=> ∃ k,Ss n0 l s t a3 R gF g4 g9 Zc Ze Zd w w' k) (fun w'=>least (fun k=>Ss n0 l s t a3 R gF g4 g9 Zc Ze Zd w w' k))
 case atStart=>exact⟨300000000,_,H0.out,by rw[HZ.out];omega,HRR.out,hIA.out,B4.out,B9.out,HB.out⟩
 case round=>
  clear B4 B9 HB hIA;have hmin:=least_spec hrel;obtain⟨kk,hkk⟩: ∃ k_,k_=least (fun k=>Ss n0 l s t a3 R gF g4 g9 Zc Ze Zd w wr k):=⟨_,rfl⟩;rw[← hkk] at hmin;have HLE:=Ya hkk;clear hrel hkk;obtain⟨F,hok,hgk,hgp,hF,hB4,hB9,hB⟩:=hmin;have hgt:=flow_top hok.flow hs hst;obtain⟨k,rfl⟩: ∃ k,kk=k+1:=⟨kk - 1,by omega⟩;have hRt:=hok.flow.right;have hFl:=hRt.len;obtain⟨q,hq,_⟩:=hok.nums;obtain⟨_,hRO⟩:=reach_ok hRt hs (tightP_noGain hRt hq);have HRO:=Ya hRO;have HRT:=Ya hRt;have HOK:=Ya hok;have HGK:=Ya hgk;have HGP:=Ya hgp;have HF:=Ya hF;have B4:=Ya hB4;have B9:=Ya hB9;have HB:=Ya hB;have hRI:=hRO.ok.hI;have hRD:=hRO.ok.hD;have hRB:=hRO.ok.hB;have keyF:=from_calls n0 Zc Ze Zd l (some ⟨gF,0,none⟩) l.length F s wr hRt hs (Yt H2.out hB) HC2.out (isI_C hF (by omega)) (by omega);have er:(goesR l F n0 (n0+1) (startR n0 s)).1=reachS l F n0 s:=rfl;rw[hFl,er] at keyF;obtain⟨x,hxd⟩: ∃ x,x=reachS l F n0 s:=⟨_,rfl⟩;rw[← hxd] at keyF hRI hRD hRB;have HKF:=Ya keyF;have HXD:=Ya hxd;have hFL:=Ya hFl;clear hok hgk hgp hF hB4 hB9 hB hRt hFl hq hRO keyF er hxd hgt;have x0:wr.cell? ⟨g4,0,none⟩=some (.int .i64 (n0:Int)):=(Yc B4.out 0).trans rfl;have x1:wr.cell? ⟨g4,1,none⟩=some (.bool Zc):=(Yc B4.out 1).trans rfl;have x2:wr.cell? ⟨g4,2,none⟩=some (.slice Ze l.length Zd):=(Yc B4.out 2).trans rfl;go_upto_region 3 with (first|(go_at_call 67;refine HKF.out.mono ?_;rintro e_ w8 ⟨v0,v1,v2,rfl,r0,r1,r2,hb⟩;obtain⟨A0,c0,ev0⟩:=Kd.R_slice r0;obtain⟨A1,c1,ev1⟩:=Kd.R_slice r1;obtain⟨A2,c2,ev2⟩:=Kd.R_slice r2;subst ev0;subst ev1;subst ev2;rw[hRD] at r0 ⊢;rw[hRI] at r1 ⊢;rw[hRB] at r2 ⊢;have R0:=Ya r0;have R1:=Ya r1;have R2:=Ya r2;have m0_:=Ya (HF.out.below hb);have m1_:=Ya (Yn B4.out hb);have m2_:=Ya (Yn B9.out hb);have hwr8:=hb.size;have m3_:=Ya (Yk HB.out hb);have hgFr:gF<wr.heap.size:=HF.out.lt;have hg9r_:g9<wr.heap.size:=blk_lt B9.out;have hwrw:w.heap.size≤wr.heap.size:=HB.out.size;clear HF B4 B9 HB r0 r1 r2 hb x0 x1 x2 HKF;have HF:=m0_;have B4:=m1_;have B9:=m2_;have HB:=m3_;clear m0_ m1_ m2_ m3_)|fail)
  have hC109:Below w8.heap.size w8 (w8.alloc (.cells #[.slice A0 n0 c0, .slice A1 n0 c1, .slice A2 n0 c2] 69)):=Ye (Yo _ _) _;have B11:Aside0 ((w8.alloc (.cells #[.slice A0 n0 c0, .slice A1 n0 c1, .slice A2 n0 c2] 69)).heap[w8.heap.size]? =some (.cells #[.slice A0 n0 c0, .slice A1 n0 c1, .slice A2 n0 c2] 69 (0,0))):=⟨heap_alloc_new w8 _⟩;have hg11:wr.heap.size≤w8.heap.size:=hwr8;have hg9r:g9<wr.heap.size:=hg9r_;have hlts:g9<w8.heap.size∧g4<w8.heap.size∧gF<w8.heap.size:=⟨blk_lt B9.out,blk_lt B4.out,HF.out.lt⟩;have m0_:=Ya (HF.out.below hC109);have m1_:=Ya (Yn B4.out hC109);have m2_:=Ya (Yn B9.out hC109);have m3_:=Ya (Yk HB.out hC109);have m4_:=Ya (Ys R0.out hC109);have m5_:=Ya (Ys R1.out hC109);have m6_:=Ya (Ys R2.out hC109);clear HF B4 B9 HB R0 R1 R2 hC109;have HF:=m0_;have B4:=m1_;have B9:=m2_;have HB:=m3_;have R0:=m4_;have R1:=m5_;have R2:=m6_;clear m0_ m1_ m2_ m3_ m4_ m5_ m6_ hwr8;generalize w8.alloc (.cells #[.slice A0 n0 c0, .slice A1 n0 c1, .slice A2 n0 c2] 69)=w9 at *;generalize w8.heap.size=g11 at *;have y0:w9.cell? ⟨g11,0,none⟩=some (.slice A0 n0 c0):=(Yc B11.out 0).trans rfl;have y1:w9.cell? ⟨g11,1,none⟩=some (.slice A1 n0 c1):=(Yc B11.out 1).trans rfl;have y2:w9.cell? ⟨g11,2,none⟩=some (.slice A2 n0 c2):=(Yc B11.out 2).trans rfl;have pt:(0:Int)≤(t:Int):=by omega
  have qt:(t:Int)<(n0:Int):=by omega
  obtain⟨ad0,cc0,e0,_,hK0,hc0⟩:=Kd.C_get (Kd.R_reads' R0.out).2.2 0 (t:Int) pt (by rw[hRD];exact qt);obtain⟨ad1,cc1,e1,_,hK1,hc1⟩:=Kd.C_get (Kd.R_reads' R1.out).2.2 false (t:Int) pt (by rw[hRI];exact qt);subst e0;subst e1;have hd:w9.cell? (ad0.add t)=some (.int .i64 (x.D.getD t 0)):=by
   have e:cc0=[.int .i64 (x.D.getD t 0)]:=hK0;have h_:=hc0 0 (.int .i64 (x.D.getD t 0)) (by rw[e];rfl);have e2:(t:Int).toNat * (Kd.int .i64).sz+0=t:=by rw[Int.toNat_natCast];show t * 1+0=t;omega
   rw[e2] at h_;exact h_
  have hi:w9.cell? (ad1.add t)=some (.bool (x.I.getD t false)):=by
   have e:cc1=[.bool (x.I.getD t false)]:=hK1;have h_:=hc1 0 (.bool (x.I.getD t false)) (by rw[e];rfl);have e2:(t:Int).toNat * Kd.bool.sz+0=t:=by rw[Int.toNat_natCast];show t * 1+0=t;omega
   rw[e2] at h_;exact h_
  clear hK0 hK1 hc0 hc1;obtain⟨dt,hdt⟩: ∃ d_,d_=x.D.getD t 0:=⟨_,rfl⟩;obtain⟨it,hit⟩: ∃ d_,d_=x.I.getD t false:=⟨_,rfl⟩;rw[← hdt] at hd;rw[← hit] at hi;have HDT:=Ya hdt;have HIT:=Ya hit;clear hdt hit;have hNear:nearS l F n0 s t a3↔it=true∧dt≤a3:=by unfold nearS;rw[← HXD.out, ← HDT.out, ← HIT.out]
  by_cases hn:it=true∧dt≤a3
  ·have HN:=Ya (hNear.2 hn)
   obtain⟨hn1,hn2⟩:=hn;subst hn1;have t1:(!true)=false:=rfl;have t2:decide (a3<dt)=false:=Yw (by omega);clear hNear;go_upto_region 5 with fail
   clear hd hi y0 y1 y2;obtain⟨hTW,hTL⟩:=wayS_ok HRT.out (by rw[← HXD.out];rw[← HXD.out] at HRO;exact HRO.out) ht HN.out.1;obtain⟨rk,hby⟩:=HRO.out.by_;rw[← HXD.out] at hby
   have HBY:=Ya hby
   have HXO:Aside0 (x.Ok n0):=⟨by rw[HXD.out];exact HRO.out.ok⟩;have HIX:Aside0 (x.I.getD t false=true):=⟨HIT.out.symm⟩;obtain⟨L,hLd⟩: ∃ L_,L_=wayS l F n0 s t:=⟨_,rfl⟩;have hLx:L=(backB l x s (n0+1) t).reverse:=by rw[hLd,HXD.out];rfl
   rw[← hLd] at hTW hTL;obtain⟨p1,p2,p3,p4,p5,p6,p7⟩:=push_way HOK.out.flow hst hTW.leads hTW.apart;obtain⟨so1,so2⟩:=span_near HOK.out hs ht hst HN.out;have sgo:spanS l n0 s t a3 k (pushW F (leastR l F L) L)=R:=by rw[← HGP.out,spanS_go HN.out, ← hLd]
   rw[← hLd] at so1 so2;have hLp:0<L.length:=List.length_pos_iff.2 p3;have hLn:L.length≤50:=by omega
   obtain⟨m,hm⟩: ∃ m_,m_=leastR l F L:=⟨_,rfl⟩;rw[← hm] at p2 p6 so1 so2 sgo;have HMM:=Ya hm;have HP5:=Ya p5;have HAP:=Ya hTW.apart;have HSO:=Ya so1;have HSB:=Ya so2;have HSG:=Ya sgo;have HLX:=Ya hLx;have HRL:Aside0 (∀ e,e∈L→m≤stRoom l F e):=⟨fun e he=>by rw[hm];exact leastR_le he⟩;clear hTW hTL hby hLd hLx p1 p3 p4 p5 p7 so1 so2 sgo hm;have x0:w9.cell? ⟨g4,0,none⟩=some (.int .i64 (n0:Int)):=(Yc B4.out 0).trans rfl;have x1:w9.cell? ⟨g4,1,none⟩=some (.bool Zc):=(Yc B4.out 1).trans rfl;have x2:w9.cell? ⟨g4,2,none⟩=some (.slice Ze l.length Zd):=(Yc B4.out 2).trans rfl;go_upto_region 6 with (first|(go_at_call 68;refine(at_calls n0 Zc Ze Zd l (some ⟨gF,0,none⟩) l.length l.length _ (Yt H2.out HB.out) HC2.out (by omega) (by omega) (by omega) (fun k hk=>(HRT.out.ends k hk).1) (fun k hk=>(HRT.out.ends k hk).2)).mono ?_;rintro e_ w10 ⟨vr,rfl,hS,hb⟩;obtain⟨A4,c4,ev⟩:=Kd.S_slice hS;subst ev;rw[rowsAt_len] at hS ⊢;have m0_:=Ya (HF.out.below hb);have m1_:=Ya (Yn B4.out hb);have m2_:=Ya (Yn B9.out hb);have m3_:=Ya (Yk HB.out hb);have m4_:=Ya (Yn B11.out hb);have m5_:=Ya (Ys R2.out hb);clear HF B4 B9 HB B11 R0 R1 R2 hS hb x0 x1 x2;have HF:=m0_;have B4:=m1_;have B9:=m2_;have HB:=m3_;have B11:=m4_;have R2:=m5_;clear m0_ m1_ m2_ m3_ m4_ m5_)|fail)
   have hA:Below w10.heap.size w10 (w10.alloc (.cells #[.int .i64 (n0:Int), .bool Zc, .slice Ze l.length Zd, .slice (some ⟨gF,0,none⟩) l.length l.length, .slice A4 n0 c4] 107)):=Ye (Yo _ _) _;have B13:Aside0 ((w10.alloc (.cells #[.int .i64 (n0:Int), .bool Zc, .slice Ze l.length Zd, .slice (some ⟨gF,0,none⟩) l.length l.length, .slice A4 n0 c4] 107)).heap[w10.heap.size]? =some (.cells #[.int .i64 (n0:Int), .bool Zc, .slice Ze l.length Zd, .slice (some ⟨gF,0,none⟩) l.length l.length, .slice A4 n0 c4] 107 (0,0))):=⟨heap_alloc_new w10 _⟩;have hg13:w.heap.size≤w10.heap.size∧gF<w10.heap.size:=⟨HB.out.size,HF.out.lt⟩;have m0_:=Ya (HF.out.below hA);have m1_:=Ya (Yn B4.out hA);have m2_:=Ya (Yn B9.out hA);have m3_:=Ya (Yk HB.out hA);have m4_:=Ya (Yn B11.out hA);have m5_:=Ya (Ys R2.out hA);clear HF B4 B9 HB B11 R2 hA;have HF:=m0_;have B4:=m1_;have B9:=m2_;have HB:=m3_;have B11:=m4_;have R2:=m5_;clear m0_ m1_ m2_ m3_ m4_ m5_;generalize w10.alloc (.cells #[.int .i64 (n0:Int), .bool Zc, .slice Ze l.length Zd, .slice (some ⟨gF,0,none⟩) l.length l.length, .slice A4 n0 c4] 107)=w11 at *;generalize w10.heap.size=g13 at *;have u0:w11.cell? ⟨g13,0,none⟩=some (.int .i64 (n0:Int)):=(Yc B13.out 0).trans rfl;have u1:w11.cell? ⟨g13,1,none⟩=some (.bool Zc):=(Yc B13.out 1).trans rfl;have u2:w11.cell? ⟨g13,2,none⟩=some (.slice Ze l.length Zd):=(Yc B13.out 2).trans rfl;have u3:w11.cell? ⟨g13,3,none⟩=some (.slice (some ⟨gF,0,none⟩) l.length l.length):=(Yc B13.out 3).trans rfl;have u4:w11.cell? ⟨g13,4,none⟩=some (.slice A4 n0 c4):=(Yc B13.out 4).trans rfl;have y0:w11.cell? ⟨g11,0,none⟩=some (.slice (some ad0) n0 c0):=(Yc B11.out 0).trans rfl;have y1:w11.cell? ⟨g11,1,none⟩=some (.slice (some ad1) n0 c1):=(Yc B11.out 1).trans rfl;have y2:w11.cell? ⟨g11,2,none⟩=some (.slice A2 n0 c2):=(Yc B11.out 2).trans rfl;have HC2B:Aside0 (Kd.C k79 w11 A2 n0 x.B):=⟨by have h_:=(Kd.R_reads' R2.out).2.2;rw[hRB] at h_;exact h_⟩;have keyW:=fastest_calls n0 Zc Ze Zd l (some ⟨gF,0,none⟩) l.length F A4 c4 (some ad0) c0 (some ad1) c1 A2 c2 x rk s t w11 HRT.out HXO.out HBY.out hs ht hst HIX.out HC2.out (by have:=hFL.out;omega) (Yt H2.out HB.out) (isI_C HF.out (by have:=hFL.out;omega)) HC2B.out;rw[hFL.out, ← HLX.out] at keyW;have HKW:=Ya keyW;clear keyW R2 HC2B;go_upto_region 7 with (first|(go_at_call 69;refine HKW.out.mono ?_;rintro e_ w12 ⟨vw,rfl,hRv,hb⟩;have m0_:=Ya (HF.out.below hb);have m1_:=Ya (Yn B4.out hb);have m2_:=Ya (Yn B9.out hb);have m3_:=Ya (Yk HB.out hb);have m4_:=Ya (Yn B13.out hb);have hbs:=hb.size;have hw11:w.heap.size≤w11.heap.size:=HB.out.size;have hgF11:gF<w11.heap.size:=HF.out.lt;clear HF B4 B9 HB B11 B13 HKW hb u0 u1 u2 u3 u4 y0 y1 y2;have HF:=m0_;have B4:=m1_;have B9:=m2_;have HB:=m3_;have B13:=m4_;clear m0_ m1_ m2_ m3_ m4_)|fail)
   obtain⟨Aw,cw,ew⟩:=Kd.R_slice hRv;subst ew;have hCw:=(Kd.R_reads' hRv).2.2;have hcw:=(Kd.R_reads' hRv).2.1;obtain⟨adw,eadw,_⟩:=hCw.2.2 hLp;subst eadw;obtain⟨g,eg⟩:=Kd.R_head hRv;subst eg;have hgb:w11.heap.size≤g:=Kd.R_base hRv g rfl;have HWC:Aside0 (∀ (j:Nat) (e:S79),L[j]? =some e→w12.cell? ⟨g,j * 2,none⟩=some (.int .i64 e.f0)∧w12.cell? ⟨g,j * 2+1,none⟩=some (.bool e.f1)):=⟨by
    intro j e hj;obtain⟨ad,ead,c0,c1⟩:=at_T79 hCw (j:Int) (by omega) (by have:=(List.getElem?_eq_some_iff.1 hj).1;omega);injection ead with ead
    subst ead;have hee:rd_T79 L (j:Int)=e:=by
     unfold rd_T79;rw[Int.toNat_natCast,List.getD_eq_getElem?_getD,hj];rfl
    rw[hee,Int.toNat_natCast,add_at,Nat.zero_add] at c0 c1;exact⟨c0,c1⟩⟩
   have hgl:g<w12.heap.size:=Kd.R_lt hRv g rfl;clear hRv hCw;have u0:w12.cell? ⟨g13,0,none⟩=some (.int .i64 (n0:Int)):=(Yc B13.out 0).trans rfl;have u1:w12.cell? ⟨g13,1,none⟩=some (.bool Zc):=(Yc B13.out 1).trans rfl;have u2:w12.cell? ⟨g13,2,none⟩=some (.slice Ze l.length Zd):=(Yc B13.out 2).trans rfl;have u3:w12.cell? ⟨g13,3,none⟩=some (.slice (some ⟨gF,0,none⟩) l.length l.length):=(Yc B13.out 3).trans rfl;have keyL:=least_calls n0 Zc Ze Zd l (some ⟨gF,0,none⟩) l.length F g cw L w12 HRT.out HP5.out hLp (by omega) hcw HWC.out HC2.out (by have:=hFL.out;omega) (Yt H2.out HB.out) (isI_C HF.out (by have:=hFL.out;omega));rw[hFL.out, ← HMM.out] at keyL;have HKL:=Ya keyL;clear keyL;go_upto_region 8 with (first|(go_at_call 70;refine HKL.out.mono ?_;rintro e_ w13 ⟨rfl,hb⟩;have m0_:=Ya (HF.out.below hb);have m1_:=Ya (Yn B4.out hb);have m2_:=Ya (Yn B9.out hb);have m3_:=Ya (Yk HB.out hb);have m4_:=Ya (Yn B13.out hb);have m5_:Aside0 (∀ (j:Nat) (e:S79),L[j]? =some e→w13.cell? ⟨g,j * 2,none⟩=some (.int .i64 e.f0)∧w13.cell? ⟨g,j * 2+1,none⟩=some (.bool e.f1)):=⟨fun j e hj=>⟨pw_cell_below hb (HWC.out j e hj).1,pw_cell_below hb (HWC.out j e hj).2⟩⟩;have hgl13:g<w13.heap.size:=Nat.lt_of_lt_of_le hgl hb.size;clear HF B4 B9 HB B13 HWC HKL hb u0 u1 u2 u3;have HF:=m0_;have B4:=m1_;have B9:=m2_;have HB:=m3_;have B13:=m4_;have HWC:=m5_;clear m0_ m1_ m2_ m3_ m4_ m5_)|fail)
   go_wp2_with fail;go_loopw [60] (fun v60 w'=> ∃ j:Nat,j≤L.length∧v60= .int .i64 (j:Int)∧Aside0 (IsI w' gF (pushW F m (L.take j)))∧Aside0 (w'.heap[g4]? =some (.cells #[.int .i64 (n0:Int), .bool Zc, .slice Ze l.length Zd] 24 (0,0)))∧Aside0 (w'.heap[g9]? =some (.cells #[.slice none 0 0, .slice none 0 0, .slice none 0 0] 69 (0,0)))∧Aside0 (w'.heap[g13]? =some (.cells #[.int .i64 (n0:Int), .bool Zc, .slice Ze l.length Zd, .slice (some ⟨gF,0,none⟩) l.length l.length, .slice A4 n0 c4] 107 (0,0)))∧Aside0 (∀ (j:Nat) (e:S79),L[j]? =some e→w'.cell? ⟨g,j * 2,none⟩=some (.int .i64 e.f0)∧w'.cell? ⟨g,j * 2+1,none⟩=some (.bool e.f1))∧Aside0 (g<w'.heap.size)∧Aside0 (Below w.heap.size w w')) (fun v60 _=>L.length - (intOf v60).toNat)
   case atStart=>exact⟨0,by omega,rfl,by rw[List.take_zero];exact HF,B4,B9,B13,HWC,⟨hgl13⟩,HB⟩
   case round=>
    clear HF B4 B9 HB B13 HWC hgl hgl13;obtain⟨j,hj,rfl,HF,B4,B9,B13,HWC,HGL,HB⟩:=hrel;by_cases hlt:j<L.length
    ·have e3:decide ((j:Int)<(L.length:Int))=true:=Yv (by omega)
     obtain⟨e,he⟩: ∃ e,L[j]? =some e:=⟨_,List.getElem?_eq_getElem hlt⟩;obtain⟨c0,c1⟩:=HWC.out j e he;have hmem:=List.mem_of_getElem? he;have hso:=HP5.out e hmem;have hrj:=Right.take (k:=m) (by omega) HRT.out (L:=L) (fun x hx=>⟨HP5.out x hx,HRL.out x hx⟩) HAP.out j;have hgo:goS (pushW F m (L.take j)) e m=pushW F m (L.take (j+1)):=by rw[take_snoc he,pushW_snoc]
     obtain⟨i,hi,hei⟩:=hso;have hnj:=hrj.nums i hi;have hlj:=hrj.len;obtain⟨Fj,hFj⟩: ∃ F_,F_=pushW F m (L.take j):=⟨_,rfl⟩;rw[← hFj] at hgo hnj hlj HF;have HGO:=Ya hgo;have HNJ:=Ya hnj;have HLJ:=Ya hlj;have HEI:=Ya hei;clear hrj hgo hnj hlj hei hFj he hmem;have pj:(0:Int)≤(j:Int):=by omega
     have qj:(j:Int)<(L.length:Int):=by omega
     go_upto_region 11 with fail
     have HN:Aside0 ((wr.alloc (.cells #[.int .i64 e.f0, .bool e.f1] 79)).heap[wr.heap.size]? =some (.cells #[.int .i64 e.f0, .bool e.f1] 79 (0,0))):=⟨heap_alloc_new _ _⟩;have hbA:Below wr.heap.size wr (wr.alloc (.cells #[.int .i64 e.f0, .bool e.f1] 79)):=Ye (Yo _ _) _;have hszr:w.heap.size≤wr.heap.size:=HB.out.size;have m0_:=Ya (HF.out.below hbA);have m1_:=Ya (Yn B4.out hbA);have m2_:=Ya (Yn B9.out hbA);have m3_:=Ya (Yn B13.out hbA);have m5_:=Ya (Yk HB.out hbA);have m4_:Aside0 (∀ (q:Nat) (e_:S79),L[q]? =some e_→(wr.alloc (.cells #[.int .i64 e.f0, .bool e.f1] 79)).cell? ⟨g,q * 2,none⟩=some (.int .i64 e_.f0)∧(wr.alloc (.cells #[.int .i64 e.f0, .bool e.f1] 79)).cell? ⟨g,q * 2+1,none⟩=some (.bool e_.f1)):=⟨fun q e_ hq=>⟨pw_cell_below hbA (HWC.out q e_ hq).1,pw_cell_below hbA (HWC.out q e_ hq).2⟩⟩;have hlts2:gF<wr.heap.size:=HF.out.lt;clear HF B4 B9 B13 HB HWC c0 c1 hbA;have HF:=m0_;have B4:=m1_;have B9:=m2_;have B13:=m3_;have HWC:=m4_;have HB:=m5_;clear m0_ m1_ m2_ m3_ m4_ m5_;have HGL:=HGL.out;generalize wr.alloc (.cells #[.int .i64 e.f0, .bool e.f1] 79)=w14 at *;generalize wr.heap.size=g17 at *;have u0:w14.cell? ⟨g13,0,none⟩=some (.int .i64 (n0:Int)):=(Yc B13.out 0).trans rfl;have u1:w14.cell? ⟨g13,1,none⟩=some (.bool Zc):=(Yc B13.out 1).trans rfl;have u2:w14.cell? ⟨g13,2,none⟩=some (.slice Ze l.length Zd):=(Yc B13.out 2).trans rfl;have u3:w14.cell? ⟨g13,3,none⟩=some (.slice (some ⟨gF,0,none⟩) l.length l.length):=(Yc B13.out 3).trans rfl;have b0:w14.cell? ⟨g17,0,none⟩=some (.int .i64 e.f0):=(Yc HN.out 0).trans rfl;have b1:w14.cell? ⟨g17,1,none⟩=some (.bool e.f1):=(Yc HN.out 1).trans rfl;have hgw:g<w14.heap.size:=by have:=blk_lt HN.out;omega
     have hlF:i<Fj.length:=by have:=HLJ.out;omega
     have keyG:=go_calls (n0:Int) Zc Ze Zd l gF l.length Fj e m w14 HF.out (i:=i) hlF HEI.out ⟨by omega,by omega⟩ (fun _=>by have:=HNJ.out;omega) (fun _=>by have:=HNJ.out;omega);rw[HLJ.out] at keyG;have HKG:=Ya keyG;clear keyG;go_wp2_with (first|(go_at_call 71;refine HKG.out.mono ?_;rintro e_ w15 ⟨rfl,hil,hks⟩;rw[HGO.out] at hil;have m1_:=Ya (hks.blk B4.out (by show ¬ g4=gF;exact hgF.2.1));have m2_:=Ya (hks.blk B9.out (by show ¬ g9=gF;exact hgF.2.2));have m3_:=Ya (hks.blk B13.out (by show ¬ g13=gF;omega));have m4_:Aside0 (∀ (q:Nat) (e_:S79),L[q]? =some e_→w15.cell? ⟨g,q * 2,none⟩=some (.int .i64 e_.f0)∧w15.cell? ⟨g,q * 2+1,none⟩=some (.bool e_.f1)):=⟨fun q e_ hq=>⟨ks_cellF hks (HWC.out q e_ hq).1 (by omega),ks_cellF hks (HWC.out q e_ hq).2 (by omega)⟩⟩;have m5_:=Ya (hks.toBelow HB.out HB.out.size (fun b hb=>by have hb:b=gF:=hb;omega));have hgw2:g<w15.heap.size:=Nat.lt_of_lt_of_le hgw hks.size;clear HF B4 B9 B13 HB HWC HN HKG hks u0 u1 u2 u3 b0 b1)|fail);go_roundw
     case rel=>exact⟨j+1,by omega,by go_num,⟨hil⟩,m1_,m2_,m3_,m4_,⟨hgw2⟩,m5_⟩
     case measure=>simp[intOf];omega
    ·have e3:decide ((j:Int)<(L.length:Int))=false:=Yw (by omega)
     have htk:L.take j=L:=List.take_of_length_le (by omega);rw[htk] at HF;have hSs:Ss n0 l s t a3 R gF g4 g9 Zc Ze Zd w wr k:=⟨pushW F m L,HSO.out,by have:=HSB.out;have:=HGK.out;omega,HSG.out,HF.out,B4.out,B9.out,HB.out⟩;go_wp2_with fail;go_roundw
     case rel=>exact⟨k,hSs⟩
     case measure=>exact least_lt hSs (by rw[← HLE.out];exact Nat.lt_succ_self k)
  ·have HN:Aside0 (¬ nearS l F n0 s t a3):=⟨fun h=>hn (hNear.1 h)⟩
   have HE:Aside0 (F=R):=⟨by rw[← HGP.out,spanS_end HN.out]⟩;have z0:w9.cell? ⟨g9,0,none⟩=some (.slice none 0 0):=(Yc B9.out 0).trans rfl;have z1:w9.cell? ⟨g9,1,none⟩=some (.slice none 0 0):=(Yc B9.out 1).trans rfl;have z2:w9.cell? ⟨g9,2,none⟩=some (.slice none 0 0):=(Yc B9.out 2).trans rfl;have f0:=Yf B9.out 0;have f1:=Yf B9.out 1;have f2:=Yf B9.out 2;cases it with
   |false=>
    have t1:(!false)=true:=rfl;go_upto_region 4 with fail
    have hne:g9≠g11:=by omega
    go_region_held3 (fun w'=>w'.cell? ⟨g11,0,none⟩=some (.slice (some ad0) n0 c0)∧w'.cell? ⟨g11,1,none⟩=some (.slice (some ad1) n0 c1)∧w'.cell? ⟨g11,2,none⟩=some (.slice A2 n0 c2))
     (first|((try dsimp only);(refine⟨?_,?_,?_⟩)<;>first|(exact pw_cell_below (below_drew (Yo _ _)) (by assumption))|go_keep)|go_keep)
     (first|fail)
    clear y0 y1 y2 z0 z1 z2 f0 f1 f2 hd hi;have hBZ:Below w.heap.size w (((w9.setCell ⟨g9,0,none⟩ (.slice (some ad0) n0 c0)).setCell ⟨g9,1,none⟩ (.slice (some ad1) n0 c1)).setCell ⟨g9,2,none⟩ (.slice A2 n0 c2)).drew:=below_drew (Yh (Yh (Yh HB.out hg9w) hg9w) hg9w);have hsame: ∀ k,k≠g9→(((w9.setCell ⟨g9,0,none⟩ (.slice (some ad0) n0 c0)).setCell ⟨g9,1,none⟩ (.slice (some ad1) n0 c1)).setCell ⟨g9,2,none⟩ (.slice A2 n0 c2)).drew.heap[k]? =w9.heap[k]? :=fun k hk=>((Below.heap_setCell _ ⟨g9,2,none⟩ _ k hk).trans (Below.heap_setCell _ ⟨g9,1,none⟩ _ k hk)).trans (Below.heap_setCell _ ⟨g9,0,none⟩ _ k hk)
    obtain⟨wz,hwz⟩: ∃ W,W=(((w9.setCell ⟨g9,0,none⟩ (.slice (some ad0) n0 c0)).setCell ⟨g9,1,none⟩ (.slice (some ad1) n0 c1)).setCell ⟨g9,2,none⟩ (.slice A2 n0 c2)).drew:=⟨_,rfl⟩;rw[← hwz] at hBZ hsame;have hRF0:=(HF.out.same (hsame gF (Ne.symm hgF.2.2))).R (base:=w.heap.size) (ok:=fun k_=>some k_≠(Value.slice (some ad0) n0 c0).ownBlock) (by have:=hFL.out;omega) hgF.1 (fun h=>by have:=Kd.R_base R0.out gF h.symm;omega);rw[hFL.out] at hRF0;have hRF:Kd.R (Kd.int .i64) 3 wz w.heap.size (fun k_=>some k_≠(Value.slice (some ad0) n0 c0).ownBlock) (.slice (some ⟨gF,0,none⟩) l.length l.length) R:=by rw[← HE.out];exact hRF0
    have hR0:Kd.R (Kd.int .i64) 3 wz w.heap.size (fun k_=>some k_≠(Value.slice (some ⟨gF,0,none⟩) l.length l.length).ownBlock) (.slice (some ad0) n0 c0) (reachS l R n0 s).D:=by
     rw[← HE.out, ← HXD.out];exact Kd.R_mono (Kd.R_lower (Kd.R_move (Kd.R_bound R0.out) (fun k hk=>hsame k (by have:=hk.2.1;omega))) hwrw) (fun k hk=>by have:=hk.2.1;simp[Value.ownBlock];omega)
    have hR1:Kd.R Kd.bool 4 wz w.heap.size (fun _=>True) (.slice (some ad1) n0 c1) (reachS l R n0 s).I:=by
     rw[← HE.out, ← HXD.out];exact Kd.R_mono (Kd.R_lower (Kd.R_move (Kd.R_bound R1.out) (fun k hk=>hsame k (by have:=hk.2.1;omega))) hwrw) (fun _ _=>trivial)
    have hR2:Kd.R k79 79 wz w.heap.size (fun _=>True) (.slice A2 n0 c2) (reachS l R n0 s).B:=by
     rw[← HE.out, ← HXD.out];exact Kd.R_mono (Kd.R_lower (Kd.R_move (Kd.R_bound R2.out) (fun k hk=>hsame k (by have:=hk.2.1;omega))) hwrw) (fun _ _=>trivial)
    rw[hwz] at hBZ hRF hR0 hR1 hR2;clear hwz hsame hRF0;go_wp2_with fail
    (try rw[Exit.noGoto_ret]);refine bodyPost_ret (results_tc rfl _ _ g9 69 #[.slice (some ad0) n0 c0, .slice (some ad1) n0 c1, .slice A2 n0 c2] (0,0) _ rfl (Ym (YA (cs:= #[.slice (some ad0) n0 c0, .slice (some ad1) n0 c1, .slice none 0 0]) (YA (cs:= #[.slice (some ad0) n0 c0, .slice none 0 0, .slice none 0 0]) (YA (cs:= #[.slice none 0 0, .slice none 0 0, .slice none 0 0]) B9.out 0 _ rfl) 1 _ rfl) 2 _ rfl)) Try.underlying69 rfl (by kernel_rfl)) rfl ?_;exact⟨.slice (some ⟨gF,0,none⟩) l.length l.length,_,_,_,rfl,hRF,hR0,hR1,hR2,hBZ⟩
   |true=>
    have t1:(!true)=false:=rfl;have t2:decide (a3<dt)=true:=Yv (Int.not_le.1 (fun h=>hn ⟨rfl,h⟩));go_upto_region 4 with fail
    have hne:g9≠g11:=by omega
    go_region_held3 (fun w'=>w'.cell? ⟨g11,0,none⟩=some (.slice (some ad0) n0 c0)∧w'.cell? ⟨g11,1,none⟩=some (.slice (some ad1) n0 c1)∧w'.cell? ⟨g11,2,none⟩=some (.slice A2 n0 c2))
     (first|((try dsimp only);(refine⟨?_,?_,?_⟩)<;>first|(exact pw_cell_below (below_drew (Yo _ _)) (by assumption))|go_keep)|go_keep)
     (first|fail)
    clear y0 y1 y2 z0 z1 z2 f0 f1 f2 hd hi;have hBZ:Below w.heap.size w (((w9.setCell ⟨g9,0,none⟩ (.slice (some ad0) n0 c0)).setCell ⟨g9,1,none⟩ (.slice (some ad1) n0 c1)).setCell ⟨g9,2,none⟩ (.slice A2 n0 c2)).drew:=below_drew (Yh (Yh (Yh HB.out hg9w) hg9w) hg9w);have hsame: ∀ k,k≠g9→(((w9.setCell ⟨g9,0,none⟩ (.slice (some ad0) n0 c0)).setCell ⟨g9,1,none⟩ (.slice (some ad1) n0 c1)).setCell ⟨g9,2,none⟩ (.slice A2 n0 c2)).drew.heap[k]? =w9.heap[k]? :=fun k hk=>((Below.heap_setCell _ ⟨g9,2,none⟩ _ k hk).trans (Below.heap_setCell _ ⟨g9,1,none⟩ _ k hk)).trans (Below.heap_setCell _ ⟨g9,0,none⟩ _ k hk)
    obtain⟨wz,hwz⟩: ∃ W,W=(((w9.setCell ⟨g9,0,none⟩ (.slice (some ad0) n0 c0)).setCell ⟨g9,1,none⟩ (.slice (some ad1) n0 c1)).setCell ⟨g9,2,none⟩ (.slice A2 n0 c2)).drew:=⟨_,rfl⟩;rw[← hwz] at hBZ hsame;have hRF0:=(HF.out.same (hsame gF (Ne.symm hgF.2.2))).R (base:=w.heap.size) (ok:=fun k_=>some k_≠(Value.slice (some ad0) n0 c0).ownBlock) (by have:=hFL.out;omega) hgF.1 (fun h=>by have:=Kd.R_base R0.out gF h.symm;omega);rw[hFL.out] at hRF0;have hRF:Kd.R (Kd.int .i64) 3 wz w.heap.size (fun k_=>some k_≠(Value.slice (some ad0) n0 c0).ownBlock) (.slice (some ⟨gF,0,none⟩) l.length l.length) R:=by rw[← HE.out];exact hRF0
    have hR0:Kd.R (Kd.int .i64) 3 wz w.heap.size (fun k_=>some k_≠(Value.slice (some ⟨gF,0,none⟩) l.length l.length).ownBlock) (.slice (some ad0) n0 c0) (reachS l R n0 s).D:=by
     rw[← HE.out, ← HXD.out];exact Kd.R_mono (Kd.R_lower (Kd.R_move (Kd.R_bound R0.out) (fun k hk=>hsame k (by have:=hk.2.1;omega))) hwrw) (fun k hk=>by have:=hk.2.1;simp[Value.ownBlock];omega)
    have hR1:Kd.R Kd.bool 4 wz w.heap.size (fun _=>True) (.slice (some ad1) n0 c1) (reachS l R n0 s).I:=by
     rw[← HE.out, ← HXD.out];exact Kd.R_mono (Kd.R_lower (Kd.R_move (Kd.R_bound R1.out) (fun k hk=>hsame k (by have:=hk.2.1;omega))) hwrw) (fun _ _=>trivial)
    have hR2:Kd.R k79 79 wz w.heap.size (fun _=>True) (.slice A2 n0 c2) (reachS l R n0 s).B:=by
     rw[← HE.out, ← HXD.out];exact Kd.R_mono (Kd.R_lower (Kd.R_move (Kd.R_bound R2.out) (fun k hk=>hsame k (by have:=hk.2.1;omega))) hwrw) (fun _ _=>trivial)
    rw[hwz] at hBZ hRF hR0 hR1 hR2;clear hwz hsame hRF0;go_wp2_with fail
    (try rw[Exit.noGoto_ret]);refine bodyPost_ret (results_tc rfl _ _ g9 69 #[.slice (some ad0) n0 c0, .slice (some ad1) n0 c1, .slice A2 n0 c2] (0,0) _ rfl (Ym (YA (cs:= #[.slice (some ad0) n0 c0, .slice (some ad1) n0 c1, .slice none 0 0]) (YA (cs:= #[.slice (some ad0) n0 c0, .slice none 0 0, .slice none 0 0]) (YA (cs:= #[.slice none 0 0, .slice none 0 0, .slice none 0 0]) B9.out 0 _ rfl) 1 _ rfl) 2 _ rfl)) Try.underlying69 rfl (by kernel_rfl)) rfl ?_;exact⟨.slice (some ⟨gF,0,none⟩) l.length l.length,_,_,_,rfl,hRF,hR0,hR1,hR2,hBZ⟩
theorem span_Fill_calls (Zb:Int) (Zc:Bool) (Ze:Option Addr) (Zd:Nat) (Za:List S50) (a1:Int) (a2:Int) (a3:Int) (r1:List Int) (r2:List Int) (r3:List Bool) (r4:List S79) (w:World) (Zo:Kd.C k50 w Ze Za.length Za) (Zp:Za.length≤Zd) (h:(if endsErr Zb Za a1 a2=0∧0≤a3 then some (fillRes Za Zb.toNat a1.toNat a2.toNat a3) else none)=some (r1,r2,r3,r4)):
  Calls Try.prog 35 #[.agg #[.int .i64 Zb, .bool Zc, .slice Ze Za.length Zd], .int .i64 a1, .int .i64 a2, .int .i64 a3] w fun e w'=> ∃ v0_ v1_ v2_ v3_:Value,e= .returned (.tuple #[v0_, .agg #[v1_,v2_,v3_]])∧Kd.R (Kd.int .i64) 3 w' w.heap.size (fun k_=>some k_≠(v1_:Value).ownBlock) v0_ r1∧Kd.R (Kd.int .i64) 3 w' w.heap.size (fun k_=>some k_≠(v0_:Value).ownBlock) v1_ r2∧Kd.R Kd.bool 4 w' w.heap.size (fun _=>True) v2_ r3∧Kd.R k79 79 w' w.heap.size (fun _=>True) v3_ r4∧Below w.heap.size w w':=by
 by_cases he:endsErr Zb Za a1 a2=0∧0≤a3
 ·rw[Yx he] at h
  obtain⟨n0,s0,t0,rfl,rfl,rfl,hs,ht,hst,hn,hr⟩:=ends_zero he.1;simp only[Int.toNat_natCast] at h;injection h with h
  unfold fillRes at h;injection h with h1 h
  injection h with h2 h
  injection h with h3 h4
  subst h1;subst h2;subst h3;subst h4;exact fill_core n0 Zc Ze Zd Za s0 t0 a3 w hr hs ht hst he.2 Zo Zp
 ·rw[Yy he] at h;cases h
end H
namespace P
attribute [local go_sem] max2_int min2_int max_two min_two max_three min_three max_four min_four
def span_Fill.f (Zb:Int) (Zc:Bool) (Za:List (S50)) (a1:Int) (a2:Int) (a3:Int):Option (List Int × List Int × List Bool × (List (S79))):=(if H.endsErr Zb Za a1 a2=0∧0≤a3 then some (H.fillRes Za Zb.toNat a1.toNat a2.toNat a3) else none)
theorem span_Fill.calls (Zb:Int) (Zc:Bool) (Ze:Option Addr) (Zd:Nat) (Za:List (S50)) (a1:Int) (a2:Int) (a3:Int) (r1:List Int) (r2:List Int) (r3:List Bool) (r4:List (S79)) (w:World) (Zo:Kd.C k50 w Ze Za.length Za) (Zp:Za.length≤Zd) (h:span_Fill.f Zb Zc Za a1 a2 a3=some (r1,r2,r3,r4)):
  Calls Try.prog 35 #[.agg #[.int .i64 Zb, .bool Zc, .slice Ze Za.length Zd], .int .i64 a1, .int .i64 a2, .int .i64 a3] w fun e w'=> ∃ v0_ v1_ v2_ v3_:Value,e= .returned (.tuple #[v0_, .agg #[v1_,v2_,v3_]])∧Kd.R (Kd.int .i64) 3 w' w.heap.size (fun k_=>some k_≠(v1_:Value).ownBlock) v0_ r1∧Kd.R (Kd.int .i64) 3 w' w.heap.size (fun k_=>some k_≠(v0_:Value).ownBlock) v1_ r2∧Kd.R Kd.bool 4 w' w.heap.size (fun _=>True) v2_ r3∧Kd.R k79 79 w' w.heap.size (fun _=>True) v3_ r4∧Below w.heap.size w w':=H.span_Fill_calls Zb Zc Ze Zd Za a1 a2 a3 r1 r2 r3 r4 w Zo Zp h
end P
namespace P
attribute [local go_sem] max2_int min2_int max_two min_two max_three min_three max_four min_four
def maxflow_Value.l0:Nat→Int→List Int→Int→List (S50)→Int→Int→Option (Int)
 |0,_,_,_,_,_,_=>none
 |k+1,x1,x2,x7,x11,x12,x13=>if x13<x12 then(if 0≤x13 then(if x13<(x11.length:Int) then(if ((rd_T50 x11 x13).f0)=x1 then(if x13<(x2.length:Int) then(if ((rd_T50 x11 x13).f1)=x1 then(maxflow_Value.l0 k x1 x2 (wrap64 ((wrap64 (x7+(rd x2 x13))) - (rd x2 x13))) x11 x12 (wrap64 (x13+1))) else(maxflow_Value.l0 k x1 x2 (wrap64 (x7+(rd x2 x13))) x11 x12 (wrap64 (x13+1)))) else(none)) else(if ((rd_T50 x11 x13).f1)=x1 then(if x13<(x2.length:Int) then(maxflow_Value.l0 k x1 x2 (wrap64 (x7 - (rd x2 x13))) x11 x12 (wrap64 (x13+1))) else(none)) else(maxflow_Value.l0 k x1 x2 x7 x11 x12 (wrap64 (x13+1))))) else(none)) else(none)) else(some x7)
def maxflow_Value.f (k:Nat) (Zb:Int) (Zc:Bool) (Za:List (S50)) (a1:Int) (l2:List Int):Option (Int):=maxflow_Value.l0 k a1 l2 0 Za (Za.length:Int) 0
set_option maxHeartbeats 8000000 in
set_option maxRecDepth 100000 in
theorem maxflow_Value.calls (k:Nat) (Zb:Int) (Zc:Bool) (Ze:Option Addr) (Zd:Nat) (Za:List (S50)) (a1:Int) (A2:Option Addr) (c2:Nat) (l2:List Int) (r:Int) (w:World) (Zo:Kd.C k50 w Ze Za.length Za) (Zp:Za.length≤Zd) (hr2:Kd.C (Kd.int .i64) w A2 l2.length l2) (hc2:l2.length≤c2) (h:maxflow_Value.f k Zb Zc Za a1 l2=some r):
  Calls Try.prog 36 #[.agg #[.int .i64 Zb, .bool Zc, .slice Ze Za.length Zd], .int .i64 a1, .slice A2 l2.length c2] w fun e w'=>e= .returned (.int .i64 r)∧Below w.heap.size w w':=by
 have hu24:=Try.underlying24;have hu50:=Try.underlying50;have Zk:=Ya Zo;have Zm:=Ya Zp;clear Zo Zp;have HR2:=Ya hr2;have HC2:=Ya hc2;clear hr2 hc2;have HB:=Ya (Yo w.heap.size w);have H:=h;unfold maxflow_Value.f at H;clear h;have H':=Ya H;clear H;go_enter Try.func36,Try.ntmps36;go_wp2_with (first|(refine bx 3 24 #[.int .i64 Zb, .bool Zc, .slice Ze Za.length Zd] ?_;intro gb153 hg w4 Zf hb;have Vt:=Ya (Zf);have GW153:=Ya ((sz hg));have GE153:=Ya ((sz hg));replace HB:=Ya (Yk bl hb);clear hb Zf hg;have hcz5_0:w4.cell? ⟨gb153,0,none⟩=some (.int .i64 Zb):=bc Vt 0;have hcz5_1:w4.cell? ⟨gb153,1,none⟩=some (.bool Zc):=bc Vt 1;have hcz5_2:w4.cell? ⟨gb153,2,none⟩=some (.slice Ze Za.length Zd):=bc Vt 2;have hfz5_0:=Yf Vt.out 0;have hfz5_1:=Yf Vt.out 1;have hfz5_2:=Yf Vt.out 2));go_loopg [7,13] k (fun kq v7 v13 w'=> ∃ (Wj:Int) (Zr:Int),v7= .int .i64 Wj∧v13= .int .i64 Zr∧Aside0 (maxflow_Value.l0 kq a1 l2 Wj Za (Za.length:Int) Zr=some r)∧Aside0 (kq≤k)∧Aside0 (w'.heap[gb153]? =some (.cells #[.int .i64 Zb, .bool Zc,(.slice Ze Za.length Zd)] 24 (0,0)))∧Aside0 (Below w.heap.size w w'))
 case atStart=>exact⟨(0),(0),(by first|rfl|(simp;done)|(simp[*];done)),(by first|rfl|(simp;done)|(simp[*];done)),H',⟨Nat.le_refl _⟩,⟨Vt.out⟩,⟨HB.out⟩⟩
 case round=>
  clear H';try clear c2
  try clear hcz5_0
  try clear hcz5_1
  try clear hcz5_2
  try clear hfz5_0
  try clear hfz5_1
  try clear hfz5_2
  obtain⟨Wj,Zr,rfl,rfl,HA,HK1,Vt,HB⟩:=hrel;cases gk with
  |zero=>exact absurd HA.out (by simp[maxflow_Value.l0])
  |succ k1=>
   have H:=HA.out;clear HA;simp only[maxflow_Value.l0] at H;by_cases c6:Zr<(Za.length:Int)
   rotate_left
   ·rw[Yy c6] at H
    have c6b0:decide (Zr<(Za.length:Int))=false:=Yw c6;clear c6;obtain rfl:=Option.some.inj H;go_wp2;go_ret;exact⟨by first|rfl|(simp[errW_none,errW_some]<;>rfl)|(simp[*,errW_none,errW_some]<;>rfl),HB.out⟩
   rw[Yx c6] at H;have c6b0:decide (Zr<(Za.length:Int))=true:=Yv c6;clear c6;by_cases c7:0≤Zr
   rotate_left
   ·rw[Yy c7] at H
    exact absurd H (by simp)
   rw[Yx c7] at H;have c7b0:decide (0≤Zr)=true:=Yv c7;clear c7;by_cases c8:Zr<(Za.length:Int)
   rotate_left
   ·rw[Yy c8] at H
    exact absurd H (by simp)
   rw[Yx c8] at H;have c8b0:decide (Zr<(Za.length:Int))=true:=Yv c8;clear c8;by_cases c9:((rd_T50 Za Zr).f0)=a1
   rotate_left
   ·rw[Yy c9] at H
    have c9b0:(((rd_T50 Za Zr).f0) == a1)=false:=beq_eq_false_iff_ne.mpr c9;have c9b1:(((rd_T50 Za Zr).f0) != a1)=true:=bne_iff_ne.mpr c9;by_cases c18:((rd_T50 Za Zr).f1)=a1
    rotate_left
    ·rw[Yy c18] at H
     have c18b0:(((rd_T50 Za Zr).f1) == a1)=false:=beq_eq_false_iff_ne.mpr c18;have c18b1:(((rd_T50 Za Zr).f1) != a1)=true:=bne_iff_ne.mpr c18;have H':=Ya H;clear H;have p154:0≤(Zr:Int):=od;have q154:Zr<(Za.length:Int):=od;obtain⟨ad154,e154,hx154_0,hx154_1,hx154_2,hx154_3⟩:=at_T50 Zk.out Zr p154 q154;cases e154;replace hx154_0:=hc HB hx154_0;replace hx154_1:=hc HB hx154_1;replace hx154_2:=hc HB hx154_2;replace hx154_3:=hc HB hx154_3;replace p154:=eq_true p154;replace q154:=eq_true q154;go_wp2_with (first|(refine bx 9 50 #[.int .i64 0, .int .i64 0, .int .i64 0, .int .i64 0] ?_;intro Xi hg w23 Zf hb;have Ww:=Ya (Zf);have GW155:=Ya ((sz hg));have GE155:=Ya ((sz hg));replace HB:=Ya (Yk bl hb);have Xl:=Ya (by rw[hg];exact Nat.ne_of_lt (blk_lt (bk Vt)):gb153≠Xi);have NB155_153:=Ya (by rw[hg];exact Nat.ne_of_gt (blk_lt (bk Vt)):Xi≠gb153);replace Vt:=Ya (Yn (bk Vt) hb);clear hb Zf hg;have hnb24:=NB155_153.out;have hnc24:=Xl.out;have hcz25_0:w23.cell? ⟨Xi,0,none⟩=some (.int .i64 0):=bc Ww 0;have hcz25_1:w23.cell? ⟨Xi,1,none⟩=some (.int .i64 0):=bc Ww 1;have hcz25_2:w23.cell? ⟨Xi,2,none⟩=some (.int .i64 0):=bc Ww 2;have hcz25_3:w23.cell? ⟨Xi,3,none⟩=some (.int .i64 0):=bc Ww 3;have hfz25_0:=Yf Ww.out 0;have hfz25_1:=Yf Ww.out 1;have hfz25_2:=Yf Ww.out 2;have hfz25_3:=Yf Ww.out 3));go_roundg k1
     case measure=>have:=HK1.out;omega
     case rel=>exact⟨(Wj),(wrap64 (Zr+1)),(by first|rfl|(simp;done)|(simp[*];done)),(by first|rfl|(simp;done)|(simp[*];done)),H',⟨by have:=HK1.out;omega⟩,⟨by(with_reducible repeat(first|refine Yl ?_ _|refine Ym ?_|refine Yj ?_ _));refine blk_far ?_ Xl.out _;(with_reducible repeat(first|refine Yl ?_ _|refine Ym ?_|refine Yj ?_ _));refine blk_far ?_ Xl.out _;(with_reducible repeat(first|refine Yl ?_ _|refine Ym ?_|refine Yj ?_ _));refine blk_far ?_ Xl.out _;(with_reducible repeat(first|refine Yl ?_ _|refine Ym ?_|refine Yj ?_ _));refine blk_far ?_ Xl.out _;(with_reducible repeat(first|refine Yl ?_ _|refine Ym ?_|refine Yj ?_ _));exact Vt.out⟩,⟨bl⟩⟩
    rw[Yx c18] at H;have c18b0:(((rd_T50 Za Zr).f1) == a1)=true:=beq_iff_eq.mpr c18;have c18b1:(((rd_T50 Za Zr).f1) != a1)=false:=bne_eq_false_iff_eq.mpr c18;clear c18;by_cases c19:Zr<(l2.length:Int)
    rotate_left
    ·rw[Yy c19] at H
     exact absurd H (by simp)
    rw[Yx c19] at H;have c19b0:decide (Zr<(l2.length:Int))=true:=Yv c19;clear c19;have H':=Ya H;clear H;have p154:0≤(Zr:Int):=od;have q154:Zr<(Za.length:Int):=od;obtain⟨ad154,e154,hx154_0,hx154_1,hx154_2,hx154_3⟩:=at_T50 Zk.out Zr p154 q154;cases e154;replace hx154_0:=hc HB hx154_0;replace hx154_1:=hc HB hx154_1;replace hx154_2:=hc HB hx154_2;replace hx154_3:=hc HB hx154_3;replace p154:=eq_true p154;replace q154:=eq_true q154;go_wp2_with (first|(refine bx 9 50 #[.int .i64 0, .int .i64 0, .int .i64 0, .int .i64 0] ?_;intro Xi hg w20 Zf hb;have Ww:=Ya (Zf);have GW155:=Ya ((sz hg));have GE155:=Ya ((sz hg));replace HB:=Ya (Yk bl hb);have Xl:=Ya (by rw[hg];exact Nat.ne_of_lt (blk_lt (bk Vt)):gb153≠Xi);have NB155_153:=Ya (by rw[hg];exact Nat.ne_of_gt (blk_lt (bk Vt)):Xi≠gb153);replace Vt:=Ya (Yn (bk Vt) hb);clear hb Zf hg;have hnb21:=NB155_153.out;have hnc21:=Xl.out;have hcz22_0:w20.cell? ⟨Xi,0,none⟩=some (.int .i64 0):=bc Ww 0;have hcz22_1:w20.cell? ⟨Xi,1,none⟩=some (.int .i64 0):=bc Ww 1;have hcz22_2:w20.cell? ⟨Xi,2,none⟩=some (.int .i64 0):=bc Ww 2;have hcz22_3:w20.cell? ⟨Xi,3,none⟩=some (.int .i64 0):=bc Ww 3;have hfz22_0:=Yf Ww.out 0;have hfz22_1:=Yf Ww.out 1;have hfz22_2:=Yf Ww.out 2;have hfz22_3:=Yf Ww.out 3;have p158:0≤(Zr:Int):=od;have q158:Zr<(l2.length:Int):=od;obtain⟨ad158,e158,Uj⟩:=Kd.at_int HR2.out Zr p158 q158;cases e158;have hn158_0:ad158.block≠Xi:=Nat.ne_of_lt (Nat.lt_of_lt_of_le (by have:=Yb _ _ Uj;first|rwa [add_block] at this|exact this) GW155.out);have hn158_1:ad158.block≠Xi:=Nat.ne_of_lt (Nat.lt_of_lt_of_le (by have:=Yb _ _ Uj;first|rwa [add_block] at this|exact this) GW155.out);have hn158_2:ad158.block≠Xi:=Nat.ne_of_lt (Nat.lt_of_lt_of_le (by have:=Yb _ _ Uj;first|rwa [add_block] at this|exact this) GW155.out);have hn158_3:ad158.block≠Xi:=Nat.ne_of_lt (Nat.lt_of_lt_of_le (by have:=Yb _ _ Uj;first|rwa [add_block] at this|exact this) GW155.out);replace Uj:=hc HB Uj;replace Uj:=(cell_far (p:=⟨Xi,0,none⟩) (by first|(rw[add_block];exact hn158_0)|(show (Addr.add _ _).block≠_;rw[add_block];exact hn158_0)|exact hn158_0) (.int .i64 ((rd_T50 Za Zr).f0))).trans Uj;replace Uj:=(cell_far (p:=⟨Xi,1,none⟩) (by first|(rw[add_block];exact hn158_1)|(show (Addr.add _ _).block≠_;rw[add_block];exact hn158_1)|exact hn158_1) (.int .i64 ((rd_T50 Za Zr).f1))).trans Uj;replace Uj:=(cell_far (p:=⟨Xi,2,none⟩) (by first|(rw[add_block];exact hn158_2)|(show (Addr.add _ _).block≠_;rw[add_block];exact hn158_2)|exact hn158_2) (.int .i64 ((rd_T50 Za Zr).f2))).trans Uj;replace Uj:=(cell_far (p:=⟨Xi,3,none⟩) (by first|(rw[add_block];exact hn158_3)|(show (Addr.add _ _).block≠_;rw[add_block];exact hn158_3)|exact hn158_3) (.int .i64 ((rd_T50 Za Zr).f3))).trans Uj;clear hn158_0;clear hn158_1;clear hn158_2;clear hn158_3;replace p158:=eq_true p158;replace q158:=eq_true q158));go_roundg k1
    case measure=>have:=HK1.out;omega
    case rel=>exact⟨(wrap64 (Wj - (rd l2 Zr))),(wrap64 (Zr+1)),(by first|rfl|(simp;done)|(simp[*];done)),(by first|rfl|(simp;done)|(simp[*];done)),H',⟨by have:=HK1.out;omega⟩,⟨by(with_reducible repeat(first|refine Yl ?_ _|refine Ym ?_|refine Yj ?_ _));refine blk_far ?_ Xl.out _;(with_reducible repeat(first|refine Yl ?_ _|refine Ym ?_|refine Yj ?_ _));refine blk_far ?_ Xl.out _;(with_reducible repeat(first|refine Yl ?_ _|refine Ym ?_|refine Yj ?_ _));refine blk_far ?_ Xl.out _;(with_reducible repeat(first|refine Yl ?_ _|refine Ym ?_|refine Yj ?_ _));refine blk_far ?_ Xl.out _;(with_reducible repeat(first|refine Yl ?_ _|refine Ym ?_|refine Yj ?_ _));exact Vt.out⟩,⟨bl⟩⟩
   rw[Yx c9] at H;have c9b0:(((rd_T50 Za Zr).f0) == a1)=true:=beq_iff_eq.mpr c9;have c9b1:(((rd_T50 Za Zr).f0) != a1)=false:=bne_eq_false_iff_eq.mpr c9;clear c9;by_cases c10:Zr<(l2.length:Int)
   rotate_left
   ·rw[Yy c10] at H
    exact absurd H (by simp)
   rw[Yx c10] at H;have c10b0:decide (Zr<(l2.length:Int))=true:=Yv c10;clear c10;by_cases c11:((rd_T50 Za Zr).f1)=a1
   rotate_left
   ·rw[Yy c11] at H
    have c11b0:(((rd_T50 Za Zr).f1) == a1)=false:=beq_eq_false_iff_ne.mpr c11;have c11b1:(((rd_T50 Za Zr).f1) != a1)=true:=bne_iff_ne.mpr c11;have H':=Ya H;clear H;have p154:0≤(Zr:Int):=od;have q154:Zr<(Za.length:Int):=od;obtain⟨ad154,e154,hx154_0,hx154_1,hx154_2,hx154_3⟩:=at_T50 Zk.out Zr p154 q154;cases e154;replace hx154_0:=hc HB hx154_0;replace hx154_1:=hc HB hx154_1;replace hx154_2:=hc HB hx154_2;replace hx154_3:=hc HB hx154_3;replace p154:=eq_true p154;replace q154:=eq_true q154;go_wp2_with (first|(refine bx 9 50 #[.int .i64 0, .int .i64 0, .int .i64 0, .int .i64 0] ?_;intro Xi hg w15 Zf hb;have Ww:=Ya (Zf);have GW155:=Ya ((sz hg));have GE155:=Ya ((sz hg));replace HB:=Ya (Yk bl hb);have Xl:=Ya (by rw[hg];exact Nat.ne_of_lt (blk_lt (bk Vt)):gb153≠Xi);have NB155_153:=Ya (by rw[hg];exact Nat.ne_of_gt (blk_lt (bk Vt)):Xi≠gb153);replace Vt:=Ya (Yn (bk Vt) hb);clear hb Zf hg;have hnb16:=NB155_153.out;have hnc16:=Xl.out;have Up:w15.cell? ⟨Xi,0,none⟩=some (.int .i64 0):=bc Ww 0;have Uq:w15.cell? ⟨Xi,1,none⟩=some (.int .i64 0):=bc Ww 1;have hcz17_2:w15.cell? ⟨Xi,2,none⟩=some (.int .i64 0):=bc Ww 2;have hcz17_3:w15.cell? ⟨Xi,3,none⟩=some (.int .i64 0):=bc Ww 3;have Ur:=Yf Ww.out 0;have Us:=Yf Ww.out 1;have hfz17_2:=Yf Ww.out 2;have hfz17_3:=Yf Ww.out 3;have p156:0≤(Zr:Int):=od;have q156:Zr<(l2.length:Int):=od;obtain⟨ad156,e156,Xw⟩:=Kd.at_int HR2.out Zr p156 q156;cases e156;have hn156_0:ad156.block≠Xi:=Nat.ne_of_lt (Nat.lt_of_lt_of_le (by have:=Yb _ _ Xw;first|rwa [add_block] at this|exact this) GW155.out);have hn156_1:ad156.block≠Xi:=Nat.ne_of_lt (Nat.lt_of_lt_of_le (by have:=Yb _ _ Xw;first|rwa [add_block] at this|exact this) GW155.out);have hn156_2:ad156.block≠Xi:=Nat.ne_of_lt (Nat.lt_of_lt_of_le (by have:=Yb _ _ Xw;first|rwa [add_block] at this|exact this) GW155.out);have hn156_3:ad156.block≠Xi:=Nat.ne_of_lt (Nat.lt_of_lt_of_le (by have:=Yb _ _ Xw;first|rwa [add_block] at this|exact this) GW155.out);replace Xw:=hc HB Xw;replace Xw:=(cell_far (p:=⟨Xi,0,none⟩) (by first|(rw[add_block];exact hn156_0)|(show (Addr.add _ _).block≠_;rw[add_block];exact hn156_0)|exact hn156_0) (.int .i64 ((rd_T50 Za Zr).f0))).trans Xw;replace Xw:=(cell_far (p:=⟨Xi,1,none⟩) (by first|(rw[add_block];exact hn156_1)|(show (Addr.add _ _).block≠_;rw[add_block];exact hn156_1)|exact hn156_1) (.int .i64 ((rd_T50 Za Zr).f1))).trans Xw;replace Xw:=(cell_far (p:=⟨Xi,2,none⟩) (by first|(rw[add_block];exact hn156_2)|(show (Addr.add _ _).block≠_;rw[add_block];exact hn156_2)|exact hn156_2) (.int .i64 ((rd_T50 Za Zr).f2))).trans Xw;replace Xw:=(cell_far (p:=⟨Xi,3,none⟩) (by first|(rw[add_block];exact hn156_3)|(show (Addr.add _ _).block≠_;rw[add_block];exact hn156_3)|exact hn156_3) (.int .i64 ((rd_T50 Za Zr).f3))).trans Xw;clear hn156_0;clear hn156_1;clear hn156_2;clear hn156_3;replace p156:=eq_true p156;replace q156:=eq_true q156));go_roundg k1
    case measure=>have:=HK1.out;omega
    case rel=>exact⟨(wrap64 (Wj+(rd l2 Zr))),(wrap64 (Zr+1)),(by first|rfl|(simp;done)|(simp[*];done)),(by first|rfl|(simp;done)|(simp[*];done)),H',⟨by have:=HK1.out;omega⟩,⟨by(with_reducible repeat(first|refine Yl ?_ _|refine Ym ?_|refine Yj ?_ _));refine blk_far ?_ Xl.out _;(with_reducible repeat(first|refine Yl ?_ _|refine Ym ?_|refine Yj ?_ _));refine blk_far ?_ Xl.out _;(with_reducible repeat(first|refine Yl ?_ _|refine Ym ?_|refine Yj ?_ _));refine blk_far ?_ Xl.out _;(with_reducible repeat(first|refine Yl ?_ _|refine Ym ?_|refine Yj ?_ _));refine blk_far ?_ Xl.out _;(with_reducible repeat(first|refine Yl ?_ _|refine Ym ?_|refine Yj ?_ _));exact Vt.out⟩,⟨bl⟩⟩
   rw[Yx c11] at H;have c11b0:(((rd_T50 Za Zr).f1) == a1)=true:=beq_iff_eq.mpr c11;have c11b1:(((rd_T50 Za Zr).f1) != a1)=false:=bne_eq_false_iff_eq.mpr c11;clear c11;have H':=Ya H;clear H;have p154:0≤(Zr:Int):=od;have q154:Zr<(Za.length:Int):=od;obtain⟨ad154,e154,hx154_0,hx154_1,hx154_2,hx154_3⟩:=at_T50 Zk.out Zr p154 q154;cases e154;replace hx154_0:=hc HB hx154_0;replace hx154_1:=hc HB hx154_1;replace hx154_2:=hc HB hx154_2;replace hx154_3:=hc HB hx154_3;replace p154:=eq_true p154;replace q154:=eq_true q154;go_wp2_with (first|(refine bx 9 50 #[.int .i64 0, .int .i64 0, .int .i64 0, .int .i64 0] ?_;intro Xi hg w12 Zf hb;have Ww:=Ya (Zf);have GW155:=Ya ((sz hg));have GE155:=Ya ((sz hg));replace HB:=Ya (Yk bl hb);have Xl:=Ya (by rw[hg];exact Nat.ne_of_lt (blk_lt (bk Vt)):gb153≠Xi);have NB155_153:=Ya (by rw[hg];exact Nat.ne_of_gt (blk_lt (bk Vt)):Xi≠gb153);replace Vt:=Ya (Yn (bk Vt) hb);clear hb Zf hg;have hnb13:=NB155_153.out;have hnc13:=Xl.out;have Vu:w12.cell? ⟨Xi,0,none⟩=some (.int .i64 0):=bc Ww 0;have Uc:w12.cell? ⟨Xi,1,none⟩=some (.int .i64 0):=bc Ww 1;have Ud:w12.cell? ⟨Xi,2,none⟩=some (.int .i64 0):=bc Ww 2;have hcz14_3:w12.cell? ⟨Xi,3,none⟩=some (.int .i64 0):=bc Ww 3;have Ue:=Yf Ww.out 0;have Uf:=Yf Ww.out 1;have Ug:=Yf Ww.out 2;have hfz14_3:=Yf Ww.out 3;have p156:0≤(Zr:Int):=od;have q156:Zr<(l2.length:Int):=od;obtain⟨ad156,e156,Xw⟩:=Kd.at_int HR2.out Zr p156 q156;cases e156;have hn156_0:ad156.block≠Xi:=Nat.ne_of_lt (Nat.lt_of_lt_of_le (by have:=Yb _ _ Xw;first|rwa [add_block] at this|exact this) GW155.out);have hn156_1:ad156.block≠Xi:=Nat.ne_of_lt (Nat.lt_of_lt_of_le (by have:=Yb _ _ Xw;first|rwa [add_block] at this|exact this) GW155.out);have hn156_2:ad156.block≠Xi:=Nat.ne_of_lt (Nat.lt_of_lt_of_le (by have:=Yb _ _ Xw;first|rwa [add_block] at this|exact this) GW155.out);have hn156_3:ad156.block≠Xi:=Nat.ne_of_lt (Nat.lt_of_lt_of_le (by have:=Yb _ _ Xw;first|rwa [add_block] at this|exact this) GW155.out);replace Xw:=hc HB Xw;replace Xw:=(cell_far (p:=⟨Xi,0,none⟩) (by first|(rw[add_block];exact hn156_0)|(show (Addr.add _ _).block≠_;rw[add_block];exact hn156_0)|exact hn156_0) (.int .i64 ((rd_T50 Za Zr).f0))).trans Xw;replace Xw:=(cell_far (p:=⟨Xi,1,none⟩) (by first|(rw[add_block];exact hn156_1)|(show (Addr.add _ _).block≠_;rw[add_block];exact hn156_1)|exact hn156_1) (.int .i64 ((rd_T50 Za Zr).f1))).trans Xw;replace Xw:=(cell_far (p:=⟨Xi,2,none⟩) (by first|(rw[add_block];exact hn156_2)|(show (Addr.add _ _).block≠_;rw[add_block];exact hn156_2)|exact hn156_2) (.int .i64 ((rd_T50 Za Zr).f2))).trans Xw;replace Xw:=(cell_far (p:=⟨Xi,3,none⟩) (by first|(rw[add_block];exact hn156_3)|(show (Addr.add _ _).block≠_;rw[add_block];exact hn156_3)|exact hn156_3) (.int .i64 ((rd_T50 Za Zr).f3))).trans Xw;clear hn156_0;clear hn156_1;clear hn156_2;clear hn156_3;replace p156:=eq_true p156;replace q156:=eq_true q156;have p157:0≤(Zr:Int):=od;have q157:Zr<(l2.length:Int):=od;obtain⟨ad157,e157,Uk⟩:=Kd.at_int HR2.out Zr p157 q157;obtain rfl:ad156=ad157:=(by injection e157);have hn157_0:ad156.block≠Xi:=Nat.ne_of_lt (Nat.lt_of_lt_of_le (by have:=Yb _ _ Uk;first|rwa [add_block] at this|exact this) GW155.out);have hn157_1:ad156.block≠Xi:=Nat.ne_of_lt (Nat.lt_of_lt_of_le (by have:=Yb _ _ Uk;first|rwa [add_block] at this|exact this) GW155.out);have hn157_2:ad156.block≠Xi:=Nat.ne_of_lt (Nat.lt_of_lt_of_le (by have:=Yb _ _ Uk;first|rwa [add_block] at this|exact this) GW155.out);have hn157_3:ad156.block≠Xi:=Nat.ne_of_lt (Nat.lt_of_lt_of_le (by have:=Yb _ _ Uk;first|rwa [add_block] at this|exact this) GW155.out);replace Uk:=hc HB Uk;replace Uk:=(cell_far (p:=⟨Xi,0,none⟩) (by first|(rw[add_block];exact hn157_0)|(show (Addr.add _ _).block≠_;rw[add_block];exact hn157_0)|exact hn157_0) (.int .i64 ((rd_T50 Za Zr).f0))).trans Uk;replace Uk:=(cell_far (p:=⟨Xi,1,none⟩) (by first|(rw[add_block];exact hn157_1)|(show (Addr.add _ _).block≠_;rw[add_block];exact hn157_1)|exact hn157_1) (.int .i64 ((rd_T50 Za Zr).f1))).trans Uk;replace Uk:=(cell_far (p:=⟨Xi,2,none⟩) (by first|(rw[add_block];exact hn157_2)|(show (Addr.add _ _).block≠_;rw[add_block];exact hn157_2)|exact hn157_2) (.int .i64 ((rd_T50 Za Zr).f2))).trans Uk;replace Uk:=(cell_far (p:=⟨Xi,3,none⟩) (by first|(rw[add_block];exact hn157_3)|(show (Addr.add _ _).block≠_;rw[add_block];exact hn157_3)|exact hn157_3) (.int .i64 ((rd_T50 Za Zr).f3))).trans Uk;clear hn157_0;clear hn157_1;clear hn157_2;clear hn157_3;replace p157:=eq_true p157;replace q157:=eq_true q157));go_roundg k1
   case measure=>have:=HK1.out;omega
   case rel=>exact⟨(wrap64 ((wrap64 (Wj+(rd l2 Zr))) - (rd l2 Zr))),(wrap64 (Zr+1)),(by first|rfl|(simp;done)|(simp[*];done)),(by first|rfl|(simp;done)|(simp[*];done)),H',⟨by have:=HK1.out;omega⟩,⟨by(with_reducible repeat(first|refine Yl ?_ _|refine Ym ?_|refine Yj ?_ _));refine blk_far ?_ Xl.out _;(with_reducible repeat(first|refine Yl ?_ _|refine Ym ?_|refine Yj ?_ _));refine blk_far ?_ Xl.out _;(with_reducible repeat(first|refine Yl ?_ _|refine Ym ?_|refine Yj ?_ _));refine blk_far ?_ Xl.out _;(with_reducible repeat(first|refine Yl ?_ _|refine Ym ?_|refine Yj ?_ _));refine blk_far ?_ Xl.out _;(with_reducible repeat(first|refine Yl ?_ _|refine Ym ?_|refine Yj ?_ _));exact Vt.out⟩,⟨bl⟩⟩
end P
namespace P
attribute [local go_sem] max2_int min2_int max_two min_two max_three min_three max_four min_four
def span_paid.l0:Nat→List Int→Int→List (S50)→Int→Int→Option (Int)
 |0,_,_,_,_,_=>none
 |k+1,x1,x5,x9,x10,x11=>if x11<x10 then(if 0≤x11 then(if x11<(x9.length:Int) then(if x11<(x1.length:Int) then(span_paid.l0 k x1 (wrap64 (x5+(wrap64 ((rd x1 x11) * ((rd_T50 x9 x11).f3))))) x9 x10 (wrap64 (x11+1))) else(none)) else(none)) else(none)) else(some x5)
def span_paid.f (k:Nat) (Zb:Int) (Zc:Bool) (Za:List (S50)) (l1:List Int):Option (Int):=span_paid.l0 k l1 0 Za (Za.length:Int) 0
set_option maxHeartbeats 8000000 in
set_option maxRecDepth 100000 in
theorem span_paid.calls (k:Nat) (Zb:Int) (Zc:Bool) (Ze:Option Addr) (Zd:Nat) (Za:List (S50)) (A1:Option Addr) (c1:Nat) (l1:List Int) (r:Int) (w:World) (Zo:Kd.C k50 w Ze Za.length Za) (Zp:Za.length≤Zd) (hr1:Kd.C (Kd.int .i64) w A1 l1.length l1) (hc1:l1.length≤c1) (h:span_paid.f k Zb Zc Za l1=some r):
  Calls Try.prog 37 #[.agg #[.int .i64 Zb, .bool Zc, .slice Ze Za.length Zd], .slice A1 l1.length c1] w fun e w'=>e= .returned (.int .i64 r)∧Below w.heap.size w w':=by
 have hu24:=Try.underlying24;have hu50:=Try.underlying50;have Zk:=Ya Zo;have Zm:=Ya Zp;clear Zo Zp;have HR1:=Ya hr1;have HC1:=Ya hc1;clear hr1 hc1;have HB:=Ya (Yo w.heap.size w);have H:=h;unfold span_paid.f at H;clear h;have H':=Ya H;clear H;go_enter Try.func37,Try.ntmps37;go_wp2_with (first|(refine bx 2 24 #[.int .i64 Zb, .bool Zc, .slice Ze Za.length Zd] ?_;intro gb159 hg w3 Zf hb;have Wx:=Ya (Zf);have GW159:=Ya ((sz hg));have GE159:=Ya ((sz hg));replace HB:=Ya (Yk bl hb);clear hb Zf hg;have hcz4_0:w3.cell? ⟨gb159,0,none⟩=some (.int .i64 Zb):=bc Wx 0;have hcz4_1:w3.cell? ⟨gb159,1,none⟩=some (.bool Zc):=bc Wx 1;have hcz4_2:w3.cell? ⟨gb159,2,none⟩=some (.slice Ze Za.length Zd):=bc Wx 2;have hfz4_0:=Yf Wx.out 0;have hfz4_1:=Yf Wx.out 1;have hfz4_2:=Yf Wx.out 2));repeat(go_quiet (first|(refine bx 2 24 #[.int .i64 Zb, .bool Zc, .slice Ze Za.length Zd] ?_;intro gb159 hg w3 Zf hb;have Wx:=Ya (Zf);have GW159:=Ya ((sz hg));have GE159:=Ya ((sz hg));replace HB:=Ya (Yk bl hb);clear hb Zf hg;have hcz4_0:w3.cell? ⟨gb159,0,none⟩=some (.int .i64 Zb):=bc Wx 0;have hcz4_1:w3.cell? ⟨gb159,1,none⟩=some (.bool Zc):=bc Wx 1;have hcz4_2:w3.cell? ⟨gb159,2,none⟩=some (.slice Ze Za.length Zd):=bc Wx 2;have hfz4_0:=Yf Wx.out 0;have hfz4_1:=Yf Wx.out 1;have hfz4_2:=Yf Wx.out 2));try go_wp2_with (first|(refine bx 2 24 #[.int .i64 Zb, .bool Zc, .slice Ze Za.length Zd] ?_;intro gb159 hg w3 Zf hb;have Wx:=Ya (Zf);have GW159:=Ya ((sz hg));have GE159:=Ya ((sz hg));replace HB:=Ya (Yk bl hb);clear hb Zf hg;have hcz4_0:w3.cell? ⟨gb159,0,none⟩=some (.int .i64 Zb):=bc Wx 0;have hcz4_1:w3.cell? ⟨gb159,1,none⟩=some (.bool Zc):=bc Wx 1;have hcz4_2:w3.cell? ⟨gb159,2,none⟩=some (.slice Ze Za.length Zd):=bc Wx 2;have hfz4_0:=Yf Wx.out 0;have hfz4_1:=Yf Wx.out 1;have hfz4_2:=Yf Wx.out 2)))
 go_loopg [5,11] k (fun kq v5 v11 w'=> ∃ (We:Int) (Xr:Int),v5= .int .i64 We∧v11= .int .i64 Xr∧Aside0 (span_paid.l0 kq l1 We Za (Za.length:Int) Xr=some r)∧Aside0 (kq≤k)∧Aside0 (w'.heap[gb159]? =some (.cells #[.int .i64 Zb, .bool Zc,(.slice Ze Za.length Zd)] 24 (0,0)))∧Aside0 (Below w.heap.size w w'))
 case atStart=>exact⟨(0),(0),(by first|rfl|(simp;done)|(simp[*];done)),(by first|rfl|(simp;done)|(simp[*];done)),H',⟨Nat.le_refl _⟩,⟨Wx.out⟩,⟨HB.out⟩⟩
 case round=>
  clear H';try clear c1
  try clear hcz4_0
  try clear hcz4_1
  try clear hcz4_2
  try clear hfz4_0
  try clear hfz4_1
  try clear hfz4_2
  obtain⟨We,Xr,rfl,rfl,HA,HK1,Wx,HB⟩:=hrel;cases gk with
  |zero=>exact absurd HA.out (by simp[span_paid.l0])
  |succ k1=>
   have H:=HA.out;clear HA;simp only[span_paid.l0] at H;by_cases c5:Xr<(Za.length:Int)
   rotate_left
   ·rw[Yy c5] at H
    have c5b0:decide (Xr<(Za.length:Int))=false:=Yw c5;clear c5;obtain rfl:=Option.some.inj H;go_wp2;repeat(go_quiet (fail);try go_wp2)
    go_ret;exact⟨by first|rfl|(simp[errW_none,errW_some]<;>rfl)|(simp[*,errW_none,errW_some]<;>rfl),HB.out⟩
   rw[Yx c5] at H;have c5b0:decide (Xr<(Za.length:Int))=true:=Yv c5;clear c5;by_cases c6:0≤Xr
   rotate_left
   ·rw[Yy c6] at H
    exact absurd H (by simp)
   rw[Yx c6] at H;have c6b0:decide (0≤Xr)=true:=Yv c6;clear c6;by_cases c7:Xr<(Za.length:Int)
   rotate_left
   ·rw[Yy c7] at H
    exact absurd H (by simp)
   rw[Yx c7] at H;have c7b0:decide (Xr<(Za.length:Int))=true:=Yv c7;clear c7;by_cases c8:Xr<(l1.length:Int)
   rotate_left
   ·rw[Yy c8] at H
    exact absurd H (by simp)
   rw[Yx c8] at H;have c8b0:decide (Xr<(l1.length:Int))=true:=Yv c8;clear c8;have H':=Ya H;clear H;have p160:0≤(Xr:Int):=od;have q160:Xr<(Za.length:Int):=od;obtain⟨ad160,e160,hx160_0,hx160_1,hx160_2,hx160_3⟩:=at_T50 Zk.out Xr p160 q160;cases e160;replace hx160_0:=hc HB hx160_0;replace hx160_1:=hc HB hx160_1;replace hx160_2:=hc HB hx160_2;replace hx160_3:=hc HB hx160_3;replace p160:=eq_true p160;replace q160:=eq_true q160;go_wp2_with (first|(refine bx 7 50 #[.int .i64 0, .int .i64 0, .int .i64 0, .int .i64 0] ?_;intro Xk hg w9 Zf hb;have Ub:=Ya (Zf);have GW161:=Ya ((sz hg));have GE161:=Ya ((sz hg));replace HB:=Ya (Yk bl hb);have Ja:=Ya (by rw[hg];exact Nat.ne_of_lt (blk_lt (bk Wx)):gb159≠Xk);have NB161_159:=Ya (by rw[hg];exact Nat.ne_of_gt (blk_lt (bk Wx)):Xk≠gb159);replace Wx:=Ya (Yn (bk Wx) hb);clear hb Zf hg;have hnb10:=NB161_159.out;have hnc10:=Ja.out;have hcz11_0:w9.cell? ⟨Xk,0,none⟩=some (.int .i64 0):=bc Ub 0;have hcz11_1:w9.cell? ⟨Xk,1,none⟩=some (.int .i64 0):=bc Ub 1;have hcz11_2:w9.cell? ⟨Xk,2,none⟩=some (.int .i64 0):=bc Ub 2;have hcz11_3:w9.cell? ⟨Xk,3,none⟩=some (.int .i64 0):=bc Ub 3;have hfz11_0:=Yf Ub.out 0;have hfz11_1:=Yf Ub.out 1;have hfz11_2:=Yf Ub.out 2;have hfz11_3:=Yf Ub.out 3;have p162:0≤(Xr:Int):=od;have q162:Xr<(l1.length:Int):=od;obtain⟨ad162,e162,Zx⟩:=Kd.at_int HR1.out Xr p162 q162;cases e162;have hn162_0:ad162.block≠Xk:=Nat.ne_of_lt (Nat.lt_of_lt_of_le (by have:=Yb _ _ Zx;first|rwa [add_block] at this|exact this) GW161.out);have hn162_1:ad162.block≠Xk:=Nat.ne_of_lt (Nat.lt_of_lt_of_le (by have:=Yb _ _ Zx;first|rwa [add_block] at this|exact this) GW161.out);have hn162_2:ad162.block≠Xk:=Nat.ne_of_lt (Nat.lt_of_lt_of_le (by have:=Yb _ _ Zx;first|rwa [add_block] at this|exact this) GW161.out);have hn162_3:ad162.block≠Xk:=Nat.ne_of_lt (Nat.lt_of_lt_of_le (by have:=Yb _ _ Zx;first|rwa [add_block] at this|exact this) GW161.out);replace Zx:=hc HB Zx;replace Zx:=(cell_far (p:=⟨Xk,0,none⟩) (by first|(rw[add_block];exact hn162_0)|(show (Addr.add _ _).block≠_;rw[add_block];exact hn162_0)|exact hn162_0) (.int .i64 ((rd_T50 Za Xr).f0))).trans Zx;replace Zx:=(cell_far (p:=⟨Xk,1,none⟩) (by first|(rw[add_block];exact hn162_1)|(show (Addr.add _ _).block≠_;rw[add_block];exact hn162_1)|exact hn162_1) (.int .i64 ((rd_T50 Za Xr).f1))).trans Zx;replace Zx:=(cell_far (p:=⟨Xk,2,none⟩) (by first|(rw[add_block];exact hn162_2)|(show (Addr.add _ _).block≠_;rw[add_block];exact hn162_2)|exact hn162_2) (.int .i64 ((rd_T50 Za Xr).f2))).trans Zx;replace Zx:=(cell_far (p:=⟨Xk,3,none⟩) (by first|(rw[add_block];exact hn162_3)|(show (Addr.add _ _).block≠_;rw[add_block];exact hn162_3)|exact hn162_3) (.int .i64 ((rd_T50 Za Xr).f3))).trans Zx;(try have hy162_0:=fun(n_:Nat)=>(show ((((((w9.drewN n_).setCell ⟨Xk,0,none⟩ (.int .i64 ((rd_T50 Za Xr).f0))).setCell ⟨Xk,1,none⟩ (.int .i64 ((rd_T50 Za Xr).f1))).setCell ⟨Xk,2,none⟩ (.int .i64 ((rd_T50 Za Xr).f2))).setCell ⟨Xk,3,none⟩ (.int .i64 ((rd_T50 Za Xr).f3)))).cell? _=some _ from Zx));clear hn162_0;clear hn162_1;clear hn162_2;clear hn162_3;replace p162:=eq_true p162;replace q162:=eq_true q162));repeat(go_quiet (first|(refine bx 7 50 #[.int .i64 0, .int .i64 0, .int .i64 0, .int .i64 0] ?_;intro Xk hg w9 Zf hb;have Ub:=Ya (Zf);have GW161:=Ya ((sz hg));have GE161:=Ya ((sz hg));replace HB:=Ya (Yk bl hb);have Ja:=Ya (by rw[hg];exact Nat.ne_of_lt (blk_lt (bk Wx)):gb159≠Xk);have NB161_159:=Ya (by rw[hg];exact Nat.ne_of_gt (blk_lt (bk Wx)):Xk≠gb159);replace Wx:=Ya (Yn (bk Wx) hb);clear hb Zf hg;have hnb10:=NB161_159.out;have hnc10:=Ja.out;have hcz11_0:w9.cell? ⟨Xk,0,none⟩=some (.int .i64 0):=bc Ub 0;have hcz11_1:w9.cell? ⟨Xk,1,none⟩=some (.int .i64 0):=bc Ub 1;have hcz11_2:w9.cell? ⟨Xk,2,none⟩=some (.int .i64 0):=bc Ub 2;have hcz11_3:w9.cell? ⟨Xk,3,none⟩=some (.int .i64 0):=bc Ub 3;have hfz11_0:=Yf Ub.out 0;have hfz11_1:=Yf Ub.out 1;have hfz11_2:=Yf Ub.out 2;have hfz11_3:=Yf Ub.out 3;have p162:0≤(Xr:Int):=od;have q162:Xr<(l1.length:Int):=od;obtain⟨ad162,e162,Zx⟩:=Kd.at_int HR1.out Xr p162 q162;cases e162;have hn162_0:ad162.block≠Xk:=Nat.ne_of_lt (Nat.lt_of_lt_of_le (by have:=Yb _ _ Zx;first|rwa [add_block] at this|exact this) GW161.out);have hn162_1:ad162.block≠Xk:=Nat.ne_of_lt (Nat.lt_of_lt_of_le (by have:=Yb _ _ Zx;first|rwa [add_block] at this|exact this) GW161.out);have hn162_2:ad162.block≠Xk:=Nat.ne_of_lt (Nat.lt_of_lt_of_le (by have:=Yb _ _ Zx;first|rwa [add_block] at this|exact this) GW161.out);have hn162_3:ad162.block≠Xk:=Nat.ne_of_lt (Nat.lt_of_lt_of_le (by have:=Yb _ _ Zx;first|rwa [add_block] at this|exact this) GW161.out);replace Zx:=hc HB Zx;replace Zx:=(cell_far (p:=⟨Xk,0,none⟩) (by first|(rw[add_block];exact hn162_0)|(show (Addr.add _ _).block≠_;rw[add_block];exact hn162_0)|exact hn162_0) (.int .i64 ((rd_T50 Za Xr).f0))).trans Zx;replace Zx:=(cell_far (p:=⟨Xk,1,none⟩) (by first|(rw[add_block];exact hn162_1)|(show (Addr.add _ _).block≠_;rw[add_block];exact hn162_1)|exact hn162_1) (.int .i64 ((rd_T50 Za Xr).f1))).trans Zx;replace Zx:=(cell_far (p:=⟨Xk,2,none⟩) (by first|(rw[add_block];exact hn162_2)|(show (Addr.add _ _).block≠_;rw[add_block];exact hn162_2)|exact hn162_2) (.int .i64 ((rd_T50 Za Xr).f2))).trans Zx;replace Zx:=(cell_far (p:=⟨Xk,3,none⟩) (by first|(rw[add_block];exact hn162_3)|(show (Addr.add _ _).block≠_;rw[add_block];exact hn162_3)|exact hn162_3) (.int .i64 ((rd_T50 Za Xr).f3))).trans Zx;(try have hy162_0:=fun(n_:Nat)=>(show ((((((w9.drewN n_).setCell ⟨Xk,0,none⟩ (.int .i64 ((rd_T50 Za Xr).f0))).setCell ⟨Xk,1,none⟩ (.int .i64 ((rd_T50 Za Xr).f1))).setCell ⟨Xk,2,none⟩ (.int .i64 ((rd_T50 Za Xr).f2))).setCell ⟨Xk,3,none⟩ (.int .i64 ((rd_T50 Za Xr).f3)))).cell? _=some _ from Zx));clear hn162_0;clear hn162_1;clear hn162_2;clear hn162_3;replace p162:=eq_true p162;replace q162:=eq_true q162));try go_wp2_with (first|(refine bx 7 50 #[.int .i64 0, .int .i64 0, .int .i64 0, .int .i64 0] ?_;intro Xk hg w9 Zf hb;have Ub:=Ya (Zf);have GW161:=Ya ((sz hg));have GE161:=Ya ((sz hg));replace HB:=Ya (Yk bl hb);have Ja:=Ya (by rw[hg];exact Nat.ne_of_lt (blk_lt (bk Wx)):gb159≠Xk);have NB161_159:=Ya (by rw[hg];exact Nat.ne_of_gt (blk_lt (bk Wx)):Xk≠gb159);replace Wx:=Ya (Yn (bk Wx) hb);clear hb Zf hg;have hnb10:=NB161_159.out;have hnc10:=Ja.out;have hcz11_0:w9.cell? ⟨Xk,0,none⟩=some (.int .i64 0):=bc Ub 0;have hcz11_1:w9.cell? ⟨Xk,1,none⟩=some (.int .i64 0):=bc Ub 1;have hcz11_2:w9.cell? ⟨Xk,2,none⟩=some (.int .i64 0):=bc Ub 2;have hcz11_3:w9.cell? ⟨Xk,3,none⟩=some (.int .i64 0):=bc Ub 3;have hfz11_0:=Yf Ub.out 0;have hfz11_1:=Yf Ub.out 1;have hfz11_2:=Yf Ub.out 2;have hfz11_3:=Yf Ub.out 3;have p162:0≤(Xr:Int):=od;have q162:Xr<(l1.length:Int):=od;obtain⟨ad162,e162,Zx⟩:=Kd.at_int HR1.out Xr p162 q162;cases e162;have hn162_0:ad162.block≠Xk:=Nat.ne_of_lt (Nat.lt_of_lt_of_le (by have:=Yb _ _ Zx;first|rwa [add_block] at this|exact this) GW161.out);have hn162_1:ad162.block≠Xk:=Nat.ne_of_lt (Nat.lt_of_lt_of_le (by have:=Yb _ _ Zx;first|rwa [add_block] at this|exact this) GW161.out);have hn162_2:ad162.block≠Xk:=Nat.ne_of_lt (Nat.lt_of_lt_of_le (by have:=Yb _ _ Zx;first|rwa [add_block] at this|exact this) GW161.out);have hn162_3:ad162.block≠Xk:=Nat.ne_of_lt (Nat.lt_of_lt_of_le (by have:=Yb _ _ Zx;first|rwa [add_block] at this|exact this) GW161.out);replace Zx:=hc HB Zx;replace Zx:=(cell_far (p:=⟨Xk,0,none⟩) (by first|(rw[add_block];exact hn162_0)|(show (Addr.add _ _).block≠_;rw[add_block];exact hn162_0)|exact hn162_0) (.int .i64 ((rd_T50 Za Xr).f0))).trans Zx;replace Zx:=(cell_far (p:=⟨Xk,1,none⟩) (by first|(rw[add_block];exact hn162_1)|(show (Addr.add _ _).block≠_;rw[add_block];exact hn162_1)|exact hn162_1) (.int .i64 ((rd_T50 Za Xr).f1))).trans Zx;replace Zx:=(cell_far (p:=⟨Xk,2,none⟩) (by first|(rw[add_block];exact hn162_2)|(show (Addr.add _ _).block≠_;rw[add_block];exact hn162_2)|exact hn162_2) (.int .i64 ((rd_T50 Za Xr).f2))).trans Zx;replace Zx:=(cell_far (p:=⟨Xk,3,none⟩) (by first|(rw[add_block];exact hn162_3)|(show (Addr.add _ _).block≠_;rw[add_block];exact hn162_3)|exact hn162_3) (.int .i64 ((rd_T50 Za Xr).f3))).trans Zx;(try have hy162_0:=fun(n_:Nat)=>(show ((((((w9.drewN n_).setCell ⟨Xk,0,none⟩ (.int .i64 ((rd_T50 Za Xr).f0))).setCell ⟨Xk,1,none⟩ (.int .i64 ((rd_T50 Za Xr).f1))).setCell ⟨Xk,2,none⟩ (.int .i64 ((rd_T50 Za Xr).f2))).setCell ⟨Xk,3,none⟩ (.int .i64 ((rd_T50 Za Xr).f3)))).cell? _=some _ from Zx));clear hn162_0;clear hn162_1;clear hn162_2;clear hn162_3;replace p162:=eq_true p162;replace q162:=eq_true q162)))
   go_roundg k1
   case measure=>have:=HK1.out;omega
   case rel=>exact⟨(wrap64 (We+(wrap64 ((rd l1 Xr) * ((rd_T50 Za Xr).f3))))),(wrap64 (Xr+1)),(by first|rfl|(simp;done)|(simp[*];done)),(by first|rfl|(simp;done)|(simp[*];done)),H',⟨by have:=HK1.out;omega⟩,⟨by(with_reducible repeat(first|refine Yl ?_ _|refine Ym ?_|refine Yj ?_ _));refine blk_far ?_ Ja.out _;(with_reducible repeat(first|refine Yl ?_ _|refine Ym ?_|refine Yj ?_ _));refine blk_far ?_ Ja.out _;(with_reducible repeat(first|refine Yl ?_ _|refine Ym ?_|refine Yj ?_ _));refine blk_far ?_ Ja.out _;(with_reducible repeat(first|refine Yl ?_ _|refine Ym ?_|refine Yj ?_ _));refine blk_far ?_ Ja.out _;(with_reducible repeat(first|refine Yl ?_ _|refine Ym ?_|refine Yj ?_ _));exact Wx.out⟩,⟨bl⟩⟩
end P
namespace P
attribute [local go_sem] max2_int min2_int max_two min_two max_three min_three max_four min_four
def span_Best.f (k:Nat) (Zb:Int) (Zc:Bool) (Za:List (S50)) (a1:Int) (a2:Int) (a3:Int):Option (List Int × Int × Int):=(span_Asked.f k Zb Zc Za a1 a2 a3).bind fun t164=>(if t164=0 then((span_Fill.f Zb Zc Za a1 a2 a3).bind fun bt165=>((maxflow_Value.f k Zb Zc Za a1 bt165.1).bind fun t177=>((span_paid.f k Zb Zc Za bt165.1).bind fun t178=>(some (bt165.1,wrap64 ((wrap64 ((wrap64 (a3+1)) * t177)) - t178),0))))) else(some (([]:List Int),0,t164)))
def span_Best.T5:Bool × List (List Nat × List Nat):=(true,[([],[]),([],[]),([1],[1]),([],[]),([],[]),([],[]),([3,4,5],[3,4,5]),([2,6],[2,6]),([],[]),([],[]),([8,9,6],[8,9]),([7,10],[7,10]),([0,10,0,5,9],[0,5,9]),([11,12,0,1,2,3,4,5,6,7,8,9,10,11,12],[11]),([13,0,1,2,3,4,5,6,7,8,9,10,11,12,13],[])])
def span_Best.B5:List Nat:=[0,0,2,0,0,0,56,126,0,0,888,2046,1913,8191,16383]
theorem span_Best.tab5:rtab .any (opsOf Try.f13 5)=span_Best.T5:=by kernel_rfl
theorem span_Best.bits5:waitsOk span_Best.T5.2 span_Best.B5=true:=by kernel_rfl
set_option maxHeartbeats 8000000 in
set_option maxRecDepth 100000 in
theorem span_Best.calls (k:Nat) (Zb:Int) (Zc:Bool) (Ze:Option Addr) (Zd:Nat) (Za:List (S50)) (a1:Int) (a2:Int) (a3:Int) (r1:List Int) (r2:Int) (r3:Int) (w:World) (Zo:Kd.C k50 w Ze Za.length Za) (Zp:Za.length≤Zd) (h:span_Best.f k Zb Zc Za a1 a2 a3=some (r1,r2,r3)):
  Calls Try.prog 13 #[.agg #[.int .i64 Zb, .bool Zc, .slice Ze Za.length Zd], .int .i64 a1, .int .i64 a2, .int .i64 a3] w fun e w'=> ∃ v0_:Value,e= .returned (.tuple #[v0_, .int .i64 r2, .int .i64 r3])∧Kd.R (Kd.int .i64) 3 w' w.heap.size (fun _=>True) v0_ r1∧Below w.heap.size w w':=by
 have hu24:=Try.underlying24;have Zk:=Ya Zo;have Zm:=Ya Zp;clear Zo Zp;have HB:=Ya (Yo w.heap.size w);have H:=h;unfold span_Best.f at H;clear h;replace H:=Option.bind_eq_some_iff.mp H;obtain⟨t164,A50,H⟩:=H;try dsimp only at H
 have A5:=Ya A50;clear A50;by_cases c6:t164=0
 rotate_left
 ·rw[Yy c6] at H
  have c6b0:(t164 == 0)=false:=beq_eq_false_iff_ne.mpr c6;have c6b1:(t164 != 0)=true:=bne_iff_ne.mpr c6;simp only[Option.some.injEq,Prod.mk.injEq] at H;obtain⟨rfl,rfl,rfl⟩:=H;go_enter Try.func13,Try.ntmps13;go_wp2_with (first|(refine bx 4 24 #[.int .i64 Zb, .bool Zc, .slice Ze Za.length Zd] ?_;intro gb163 hg w19 Zf hb;have Wm:=Ya (Zf);have GW163:=Ya ((sz hg));have GE163:=Ya ((sz hg));replace HB:=Ya (Yk bl hb);clear hb Zf hg;have hcz20_0:w19.cell? ⟨gb163,0,none⟩=some (.int .i64 Zb):=bc Wm 0;have hcz20_1:w19.cell? ⟨gb163,1,none⟩=some (.bool Zc):=bc Wm 1;have hcz20_2:w19.cell? ⟨gb163,2,none⟩=some (.slice Ze Za.length Zd):=bc Wm 2;have hfz20_0:=Yf Wm.out 0;have hfz20_1:=Yf Wm.out 1;have hfz20_2:=Yf Wm.out 2)|((with_reducible refine gate_callee (f:=34) rfl ?_);refine gl (some 15) Try.func34 #[.agg #[.int .i64 Zb, .bool Zc, .slice Ze Za.length Zd], .int .i64 a1, .int .i64 a2, .int .i64 a3] ?_;(with_reducible refine(span_Asked.calls k Zb Zc _ _ Za a1 a2 a3 t164 _ ?side1 ?side2 A5.out).mono ?_);(case side1=>exact kC (Yt Zk.out HB.out));(case side2=>exact Zm.out);rintro e w21 ⟨rfl,hb⟩;refine⟨_,rfl,?_⟩;replace Wm:=Ya (Yn (bk Wm) hb);replace HB:=Ya (Yk bl hb);(try clear hb)));go_ret3;exact⟨_,by first|rfl|(simp[errW_none,errW_some]<;>rfl)|(simp[*,errW_none,errW_some]<;>rfl),by first|exact Kd.R_nil _ _ _ _ _|exact Kd.N_nil _ _ _ _ _|exact Kd.V_nil _ _ _ _ _|exact Kd.Q_nil _ _ _ _ _|exact Kd.S_nil _ _ _ _ _,HB.out⟩
 rw[Yx c6] at H;have c6b0:(t164 == 0)=true:=beq_iff_eq.mpr c6;have c6b1:(t164 != 0)=false:=bne_eq_false_iff_eq.mpr c6;clear c6;replace H:=Option.bind_eq_some_iff.mp H;obtain⟨⟨t165,t168,t171,t174⟩,A70,H⟩:=H;try dsimp only at H
 have A7:=Ya A70;clear A70;replace H:=Option.bind_eq_some_iff.mp H;obtain⟨t177,A80,H⟩:=H;try dsimp only at H
 have A8:=Ya A80;clear A80;replace H:=Option.bind_eq_some_iff.mp H;obtain⟨t178,A90,H⟩:=H;try dsimp only at H
 have A9:=Ya A90;clear A90;simp only[Option.some.injEq,Prod.mk.injEq] at H;obtain⟨rfl,rfl,rfl⟩:=H;go_enter Try.func13,Try.ntmps13;try go_wp2_with (first|(refine bx 4 24 #[.int .i64 Zb, .bool Zc, .slice Ze Za.length Zd] ?_;intro gb163 hg w10 Zf hb;have Wm:=Ya (Zf);have GW163:=Ya ((sz hg));have GE163:=Ya ((sz hg));replace HB:=Ya (Yk bl hb);clear hb Zf hg;have hcz11_0:w10.cell? ⟨gb163,0,none⟩=some (.int .i64 Zb):=bc Wm 0;have hcz11_1:w10.cell? ⟨gb163,1,none⟩=some (.bool Zc):=bc Wm 1;have hcz11_2:w10.cell? ⟨gb163,2,none⟩=some (.slice Ze Za.length Zd):=bc Wm 2;have hfz11_0:=Yf Wm.out 0;have hfz11_1:=Yf Wm.out 1;have hfz11_2:=Yf Wm.out 2)|((with_reducible refine gate_callee (f:=34) rfl ?_);refine gl (some 15) Try.func34 #[.agg #[.int .i64 Zb, .bool Zc, .slice Ze Za.length Zd], .int .i64 a1, .int .i64 a2, .int .i64 a3] ?_;(with_reducible refine(span_Asked.calls k Zb Zc _ _ Za a1 a2 a3 t164 _ ?side1 ?side2 A5.out).mono ?_);(case side1=>exact kC (Yt Zk.out HB.out));(case side2=>exact Zm.out);rintro e w12 ⟨rfl,hb⟩;refine⟨_,rfl,?_⟩;replace Wm:=Ya (Yn (bk Wm) hb);replace HB:=Ya (Yk bl hb);(try clear hb);have hcz13_0:w12.cell? ⟨gb163,0,none⟩=some (.int .i64 Zb):=bc Wm 0;have hcz13_1:w12.cell? ⟨gb163,1,none⟩=some (.bool Zc):=bc Wm 1;have hcz13_2:w12.cell? ⟨gb163,2,none⟩=some (.slice Ze Za.length Zd):=bc Wm 2;have hfz13_0:=Yf Wm.out 0;have hfz13_1:=Yf Wm.out 1;have hfz13_2:=Yf Wm.out 2)|((with_reducible refine gate_callee (f:=35) rfl ?_);refine gl (some 24) Try.func35 #[.agg #[.int .i64 Zb, .bool Zc, .slice Ze Za.length Zd], .int .i64 a1, .int .i64 a2, .int .i64 a3] ?_;(with_reducible refine(span_Fill.calls Zb Zc _ _ Za a1 a2 a3 t165 t168 t171 t174 _ ?side1 ?side2 A7.out).mono ?_);(case side1=>exact kC (Yt Zk.out HB.out));(case side2=>exact Zm.out);rintro e w14 ⟨v166,v169,v172,v175,rfl,ho0,ho1,ho2,ho3,hb⟩;refine⟨_,rfl,?_⟩;have HO167:=Ya (Kd.R_lower ho0 (Yi bl));have HO170:=Ya (Kd.R_lower ho1 (Yi bl));have HO173:=Ya (Kd.R_lower ho2 (Yi bl));have HO176:=Ya (Kd.R_lower ho3 (Yi bl));replace Wm:=Ya (Yn (bk Wm) hb);replace HB:=Ya (Yk bl hb);(try clear hb);(try clear hb2);(try clear hk);(try clear hi);(try clear ho0);(try clear ho1);(try clear ho2);(try clear ho3)))
 replace HO167:=Ya (Yp HO167.out);replace HO170:=Ya (Yp HO170.out);replace HO173:=Ya (Yp HO173.out);replace HO176:=Ya (Yp HO176.out);replace Wm:=Ya (Ym Wm.out);replace HB:=Ya (Yg HB.out);obtain⟨Ao16,co16,eo16⟩:=Kd.R_slice HO167.out
 (first|subst eo16|(injection eo16 with f1_ f2_ f3_;have f4_:=f1_.symm;have f5_:=f3_.symm;clear f1_ f2_ f3_;subst f4_;subst f5_))
 refine start_ (n:=15) (S:=fun w'=>w'.cell? ⟨gb163,0,none⟩=some (.int .i64 Zb)∧w'.cell? ⟨gb163,1,none⟩=some (.bool Zc)∧w'.cell? ⟨gb163,2,none⟩=some (.slice Ze Za.length Zd)) (ds:=[]) #[false,false,false,false,false,false,false,false,false,false,false,false,false,false,false] (by kernel_rfl) rfl rfl ⟨(Yc Wm.out 0).trans rfl,(Yc Wm.out 1).trans rfl,(Yc Wm.out 2).trans rfl⟩ (fun hHeld=> ?_);refine with_tabW span_Best.tab5 span_Best.bits5 (fun HT_ HW_=> ?_);generalize w14.drew=w15 at HO167 HO170 HO173 HO176 Wm HB hHeld ⊢;refine pu 0 27 (bm 15 1) ?_;refine pu 1 28 (bm 15 3) ?_;refine pu 2 29 (bm 15 7) ?_;refine pu 4 31 (bm 15 23) ?_;refine pu 5 32 (bm 15 55) ?_;refine pu 9 36 (bm 15 567) ?_;refine ta 3 30 (bm 15 575) hHeld ?_;refine ta 8 35 (bm 15 831) hHeld ?_;refine on 6 (some 33) (bm 15 895) fun K hK=> ?_
 refine gs Try.func36 #[.agg #[.int .i64 Zb, .bool Zc, .slice Ze Za.length Zd], .int .i64 a1, .slice Ao16 t165.length co16] ?_
 with_reducible refine(maxflow_Value.calls k Zb Zc _ _ Za a1 _ _ t165 t177 _ ?side1 ?side2 ?side3 ?side4 A8.out).mono ?_
 (case side1=>exact(Yt Zk.out HB.out))
 (case side2=>exact Zm.out)
 (case side3=>exact(Kd.R_reads' HO167.out).2.2)
 (case side4=>exact(Kd.R_reads' HO167.out).2.1)
 rintro e w17 ⟨rfl,hb⟩;refine⟨_,rfl,?_⟩;replace HO167:=Ya (Ys HO167.out hb);replace HO170:=Ya (Ys HO170.out hb);replace HO173:=Ya (Ys HO173.out hb);replace HO176:=Ya (Ys HO176.out hb);replace Wm:=Ya (Yn Wm.out hb);replace HB:=Ya (Yk HB.out hb)
 (try clear hb)
 (try clear hb2)
 (try clear hk)
 (try clear hi)
 refine hK.out _ _ ⟨bc Wm 0,bc Wm 1,bc Wm 2⟩ (fun hHeld=> ?_);clear hK K;refine nm ?_;refine pu 7 34 (bm 15 1023) ?_;refine on 10 (some 37) (bm 15 2047) fun K hK=> ?_
 refine gs Try.func37 #[.agg #[.int .i64 Zb, .bool Zc, .slice Ze Za.length Zd], .slice Ao16 t165.length co16] ?_
 with_reducible refine(span_paid.calls k Zb Zc _ _ Za _ _ t165 t178 _ ?side1 ?side2 ?side3 ?side4 A9.out).mono ?_
 (case side1=>exact(Yt Zk.out HB.out))
 (case side2=>exact Zm.out)
 (case side3=>exact(Kd.R_reads' HO167.out).2.2)
 (case side4=>exact(Kd.R_reads' HO167.out).2.1)
 rintro e w18 ⟨rfl,hb⟩;refine⟨_,rfl,?_⟩;replace HO167:=Ya (Ys HO167.out hb);replace HO170:=Ya (Ys HO170.out hb);replace HO173:=Ya (Ys HO173.out hb);replace HO176:=Ya (Ys HO176.out hb);replace Wm:=Ya (Yn Wm.out hb);replace HB:=Ya (Yk HB.out hb)
 (try clear hb)
 (try clear hb2)
 (try clear hk)
 (try clear hi)
 refine hK.out _ _ ⟨bc Wm 0,bc Wm 1,bc Wm 2⟩ (fun hHeld=> ?_);clear hK K;refine nm ?_;refine pu 11 38 (bm 15 4095) ?_;refine pu 12 8 (bm 15 8191) ?_;refine pu 13 9 (bm 15 16383) ?_;refine pu 14 10 (bm 15 32767) ?_;refine done_ (done_of HT_.out (by kernel_rfl)) ?_;try go_wp2
 go_ret3;exact⟨_,by first|rfl|(simp[errW_none,errW_some]<;>rfl)|(simp[*,errW_none,errW_some]<;>rfl),by(with_reducible repeat(first|apply Yr|apply Yq|apply Yp));exact Kd.R_mono HO167.out (fun _ hk=>trivial),HB.out⟩
end P
namespace P
attribute [local go_sem] max2_int min2_int max_two min_two max_three min_three max_four min_four
def span_Most.f (k:Nat) (Zb:Int) (Zc:Bool) (Za:List (S50)) (a1:Int) (a2:Int) (a3:Int):Option (Int × Int):=(span_Best.f k Zb Zc Za a1 a2 a3).bind fun bt180=>(some (bt180.2.1,bt180.2.2))
set_option maxHeartbeats 8000000 in
set_option maxRecDepth 100000 in
theorem span_Most.calls (k:Nat) (Zb:Int) (Zc:Bool) (Ze:Option Addr) (Zd:Nat) (Za:List (S50)) (a1:Int) (a2:Int) (a3:Int) (r1:Int) (r2:Int) (w:World) (Zo:Kd.C k50 w Ze Za.length Za) (Zp:Za.length≤Zd) (h:span_Most.f k Zb Zc Za a1 a2 a3=some (r1,r2)):
  Calls Try.prog 10 #[.agg #[.int .i64 Zb, .bool Zc, .slice Ze Za.length Zd], .int .i64 a1, .int .i64 a2, .int .i64 a3] w fun e w'=>e= .returned (.tuple #[.int .i64 r1, .int .i64 r2])∧Below w.heap.size w w':=by
 have hu24:=Try.underlying24;have Zk:=Ya Zo;have Zm:=Ya Zp;clear Zo Zp;have HB:=Ya (Yo w.heap.size w);have H:=h;unfold span_Most.f at H;clear h;replace H:=Option.bind_eq_some_iff.mp H;obtain⟨⟨t180,t183,t184⟩,A50,H⟩:=H;try dsimp only at H
 have A5:=Ya A50;clear A50;simp only[Option.some.injEq,Prod.mk.injEq] at H;obtain⟨rfl,rfl⟩:=H;go_enter Try.func10,Try.ntmps10;go_wp2_with (first|(refine bx 4 24 #[.int .i64 Zb, .bool Zc, .slice Ze Za.length Zd] ?_;intro gb179 hg w6 Zf hb;have BK179:=Ya (Zf);have GW179:=Ya ((sz hg));have GE179:=Ya ((sz hg));replace HB:=Ya (Yk bl hb);clear hb Zf hg;have hcz7_0:w6.cell? ⟨gb179,0,none⟩=some (.int .i64 Zb):=bc BK179 0;have hcz7_1:w6.cell? ⟨gb179,1,none⟩=some (.bool Zc):=bc BK179 1;have hcz7_2:w6.cell? ⟨gb179,2,none⟩=some (.slice Ze Za.length Zd):=bc BK179 2;have hfz7_0:=Yf BK179.out 0;have hfz7_1:=Yf BK179.out 1;have hfz7_2:=Yf BK179.out 2)|((with_reducible refine gate_callee (f:=13) rfl ?_);refine gl (some 15) Try.func13 #[.agg #[.int .i64 Zb, .bool Zc, .slice Ze Za.length Zd], .int .i64 a1, .int .i64 a2, .int .i64 a3] ?_;(with_reducible refine(span_Best.calls k Zb Zc _ _ Za a1 a2 a3 t180 t183 t184 _ ?side1 ?side2 A5.out).mono ?_);(case side1=>exact kC (Yt Zk.out HB.out));(case side2=>exact Zm.out);rintro e w8 ⟨v181,rfl,ho0,hb⟩;refine⟨_,rfl,?_⟩;have HO182:=Ya (Kd.R_lower ho0 (Yi bl));replace BK179:=Ya (Yn (bk BK179) hb);replace HB:=Ya (Yk bl hb);(try clear hb);(try clear ho0)));go_ret2;exact⟨by first|rfl|(simp[errW_none,errW_some]<;>rfl)|(simp[*,errW_none,errW_some]<;>rfl),HB.out⟩
end P
namespace P
attribute [local go_sem] max2_int min2_int max_two min_two max_three min_three max_four min_four
def ebbtideref12_Span.f (a0:Int):Option (Int):=if a0<0 then(some 1) else(if a0>1024 then(some 2) else(some 0))
set_option maxHeartbeats 8000000 in
set_option maxRecDepth 100000 in
theorem ebbtideref12_Span.calls (a0:Int) (r:Int) (w:World) (h:ebbtideref12_Span.f a0=some r):
  Calls Try.prog 38 #[.int .i64 a0] w fun e w'=>e= .returned (.int .i64 r)∧Drawn0 w w':=by
 have H:=h;unfold ebbtideref12_Span.f at H;clear h;by_cases c2:a0<0
 ·rw[Yx c2] at H
  have c2b0:decide (a0<0)=true:=Yv c2;clear c2;obtain rfl:=Option.some.inj H;go_enter Try.func38,Try.ntmps38;go_wp2;go_ret;exact⟨by first|rfl|(simp;done)|(simp[*];done),by repeat(first|exact Drawn0.refl _|apply Drawn0.step)⟩
 rw[Yy c2] at H;have c2b0:decide (a0<0)=false:=Yw c2;clear c2;by_cases c3:a0>1024
 rotate_left
 ·rw[Yy c3] at H
  have c3b0:decide (1024<a0)=false:=Yw c3;clear c3;obtain rfl:=Option.some.inj H;go_enter Try.func38,Try.ntmps38;go_wp2;go_ret;exact⟨by first|rfl|(simp;done)|(simp[*];done),by repeat(first|exact Drawn0.refl _|apply Drawn0.step)⟩
 rw[Yx c3] at H;have c3b0:decide (1024<a0)=true:=Yv c3;clear c3;obtain rfl:=Option.some.inj H;go_enter Try.func38,Try.ntmps38;go_wp2;go_ret;exact⟨by first|rfl|(simp;done)|(simp[*];done),by repeat(first|exact Drawn0.refl _|apply Drawn0.step)⟩
end P
namespace P
attribute [local go_sem] max2_int min2_int max_two min_two max_three min_three max_four min_four
def ebbtideref12_Asked.f (k:Nat) (Zb:Int) (Zc:Bool) (Za:List (S50)) (a1:Int) (a2:Int) (a3:Int):Option (Int):=(ebbtideref07_Ends.f k Zb Zc Za a1 a2).bind fun t196=>(if t196=0 then((ebbtideref12_Span.f a3).bind fun t197=>(some t197)) else(some t196))
set_option maxHeartbeats 8000000 in
set_option maxRecDepth 100000 in
theorem ebbtideref12_Asked.calls (k:Nat) (Zb:Int) (Zc:Bool) (Ze:Option Addr) (Zd:Nat) (Za:List (S50)) (a1:Int) (a2:Int) (a3:Int) (r:Int) (w:World) (Zo:Kd.C k50 w Ze Za.length Za) (Zp:Za.length≤Zd) (h:ebbtideref12_Asked.f k Zb Zc Za a1 a2 a3=some r):
  Calls Try.prog 14 #[.agg #[.int .i64 Zb, .bool Zc, .slice Ze Za.length Zd], .int .i64 a1, .int .i64 a2, .int .i64 a3] w fun e w'=>e= .returned (.int .i64 r)∧Below w.heap.size w w':=by
 have hu24:=Try.underlying24;have Zk:=Ya Zo;have Zm:=Ya Zp;clear Zo Zp;have HB:=Ya (Yo w.heap.size w);have H:=h;unfold ebbtideref12_Asked.f at H;clear h;replace H:=Option.bind_eq_some_iff.mp H;obtain⟨t196,A50,H⟩:=H;try dsimp only at H
 have A5:=Ya A50;clear A50;by_cases c6:t196=0
 rotate_left
 ·rw[Yy c6] at H
  have c6b0:(t196 == 0)=false:=beq_eq_false_iff_ne.mpr c6;have c6b1:(t196 != 0)=true:=bne_iff_ne.mpr c6;obtain rfl:=Option.some.inj H;go_enter Try.func14,Try.ntmps14;go_wp2_with (first|(refine bx 4 24 #[.int .i64 Zb, .bool Zc, .slice Ze Za.length Zd] ?_;intro gb195 hg w11 Zf hb;have BK195:=Ya (Zf);have GW195:=Ya ((sz hg));have GE195:=Ya ((sz hg));replace HB:=Ya (Yk bl hb);clear hb Zf hg;have Jw:w11.cell? ⟨gb195,0,none⟩=some (.int .i64 Zb):=bc BK195 0;have Jx:w11.cell? ⟨gb195,1,none⟩=some (.bool Zc):=bc BK195 1;have Jy:w11.cell? ⟨gb195,2,none⟩=some (.slice Ze Za.length Zd):=bc BK195 2;have Jz:=Yf BK195.out 0;have hfz12_1:=Yf BK195.out 1;have hfz12_2:=Yf BK195.out 2)|((with_reducible refine gate_callee (f:=27) rfl ?_);refine gl (some 13) Try.func27 #[.agg #[.int .i64 Zb, .bool Zc, .slice Ze Za.length Zd], .int .i64 a1, .int .i64 a2] ?_;(with_reducible refine(ebbtideref07_Ends.calls k Zb Zc _ _ Za a1 a2 t196 _ ?side1 ?side2 A5.out).mono ?_);(case side1=>exact kC (Yt Zk.out HB.out));(case side2=>exact Zm.out);rintro e w13 ⟨rfl,hb⟩;refine⟨_,rfl,?_⟩;replace BK195:=Ya (Yn (bk BK195) hb);replace HB:=Ya (Yk bl hb);(try clear hb)));go_ret;exact⟨by first|rfl|(simp[errW_none,errW_some]<;>rfl)|(simp[*,errW_none,errW_some]<;>rfl),HB.out⟩
 rw[Yx c6] at H;have c6b0:(t196 == 0)=true:=beq_iff_eq.mpr c6;have c6b1:(t196 != 0)=false:=bne_eq_false_iff_eq.mpr c6;clear c6;replace H:=Option.bind_eq_some_iff.mp H;obtain⟨t197,A70,H⟩:=H;try dsimp only at H
 have A7:=Ya A70;clear A70;obtain rfl:=Option.some.inj H;go_enter Try.func14,Try.ntmps14;go_wp2_with (first|(refine bx 4 24 #[.int .i64 Zb, .bool Zc, .slice Ze Za.length Zd] ?_;intro gb195 hg w8 Zf hb;have BK195:=Ya (Zf);have GW195:=Ya ((sz hg));have GE195:=Ya ((sz hg));replace HB:=Ya (Yk bl hb);clear hb Zf hg;have Js:w8.cell? ⟨gb195,0,none⟩=some (.int .i64 Zb):=bc BK195 0;have Jt:w8.cell? ⟨gb195,1,none⟩=some (.bool Zc):=bc BK195 1;have hcz9_2:w8.cell? ⟨gb195,2,none⟩=some (.slice Ze Za.length Zd):=bc BK195 2;have Ju:=Yf BK195.out 0;have Jv:=Yf BK195.out 1;have hfz9_2:=Yf BK195.out 2)|((with_reducible refine gate_callee (f:=27) rfl ?_);refine gl (some 13) Try.func27 #[.agg #[.int .i64 Zb, .bool Zc, .slice Ze Za.length Zd], .int .i64 a1, .int .i64 a2] ?_;(with_reducible refine(ebbtideref07_Ends.calls k Zb Zc _ _ Za a1 a2 t196 _ ?side1 ?side2 A5.out).mono ?_);(case side1=>exact kC (Yt Zk.out HB.out));(case side2=>exact Zm.out);rintro e w10 ⟨rfl,hb⟩;refine⟨_,rfl,?_⟩;replace BK195:=Ya (Yn (bk BK195) hb);replace HB:=Ya (Yk bl hb);(try clear hb))|((with_reducible refine gate_callee (f:=38) rfl ?_);refine gl (some 18) Try.func38 #[.int .i64 a3] ?_;(with_reducible refine(ebbtideref12_Span.calls a3 t197 _ A7.out).mono ?_);rintro e w' ⟨rfl,⟨nd,rfl⟩⟩;refine⟨_,rfl,?_⟩));go_ret;exact⟨by first|rfl|(simp[errW_none,errW_some]<;>rfl)|(simp[*,errW_none,errW_some]<;>rfl),bl⟩
end P
namespace P
attribute [local go_sem] max2_int min2_int max_two min_two max_three min_three max_four min_four
def ebbtideref07_Check.l0:Nat→Int→Int→List Int→Int→Int→Bool→List (S50)→Option (Int × Int)
 |0,_,_,_,_,_,_,_=>none
 |k+1,x1,x2,x11,x13,x217000,x217001,x217002=>if x13<x217000 then(if x13=x1 then(ebbtideref07_Check.l0 k x1 x2 x11 (wrap64 (x13+1)) x217000 x217001 x217002) else(if x13=x2 then(ebbtideref07_Check.l0 k x1 x2 x11 (wrap64 (x13+1)) x217000 x217001 x217002) else(if 0≤x13 then(if x13<(x11.length:Int) then(if (rd x11 x13)=0 then(ebbtideref07_Check.l0 k x1 x2 x11 (wrap64 (x13+1)) x217000 x217001 x217002) else(some (0,71))) else(none)) else(none)))) else(if 0≤x1 then(if x1<(x11.length:Int) then(some (rd x11 x1,0)) else(none)) else(none))
def ebbtideref07_Check.f (k:Nat) (Zb:Int) (Zc:Bool) (Za:List (S50)) (a1:Int) (a2:Int) (l3:List Int):Option (Int × Int):=(ebbtideref07_Ends.f k Zb Zc Za a1 a2).bind fun t217=>(if t217=0 then((ebbtideref07_Balance.f k Zb Zc Za l3).bind fun bt218=>(if bt218.2=0 then(ebbtideref07_Check.l0 k a1 a2 bt218.1 0 Zb Zc Za) else(some (0,bt218.2)))) else(some (0,t217)))
set_option maxHeartbeats 8000000 in
set_option maxRecDepth 100000 in
theorem ebbtideref07_Check.calls (k:Nat) (Zb:Int) (Zc:Bool) (Ze:Option Addr) (Zd:Nat) (Za:List (S50)) (a1:Int) (a2:Int) (A3:Option Addr) (c3:Nat) (l3:List Int) (r1:Int) (r2:Int) (w:World) (Zo:Kd.C k50 w Ze Za.length Za) (Zp:Za.length≤Zd) (hr3:Kd.C (Kd.int .i64) w A3 l3.length l3) (hc3:l3.length≤c3) (h:ebbtideref07_Check.f k Zb Zc Za a1 a2 l3=some (r1,r2)):
  Calls Try.prog 20 #[.agg #[.int .i64 Zb, .bool Zc, .slice Ze Za.length Zd], .int .i64 a1, .int .i64 a2, .slice A3 l3.length c3] w fun e w'=>e= .returned (.tuple #[.int .i64 r1, .int .i64 r2])∧Below w.heap.size w w':=by
 have hu24:=Try.underlying24;have Zk:=Ya Zo;have Zm:=Ya Zp;clear Zo Zp;have HR3:=Ya hr3;have HC3:=Ya hc3;clear hr3 hc3;have HB:=Ya (Yo w.heap.size w);have H:=h;unfold ebbtideref07_Check.f at H;clear h;replace H:=Option.bind_eq_some_iff.mp H;obtain⟨t217,A50,H⟩:=H;try dsimp only at H
 have A5:=Ya A50;clear A50;by_cases c6:t217=0
 rotate_left
 ·rw[Yy c6] at H
  have c6b0:(t217 == 0)=false:=beq_eq_false_iff_ne.mpr c6;have c6b1:(t217 != 0)=true:=bne_iff_ne.mpr c6;simp only[Option.some.injEq,Prod.mk.injEq] at H;obtain⟨rfl,rfl⟩:=H;go_enter Try.func20,Try.ntmps20;go_wp2_with (first|(refine bx 4 24 #[.int .i64 Zb, .bool Zc, .slice Ze Za.length Zd] ?_;intro Wp hg w35 Zf hb;have Zz:=Ya (Zf);have GW216:=Ya (by rw[hg];exact(Yi HB.out):w.heap.size≤Wp);have GE216:=Ya (by rw[hg];exact(Yi HB.out):w.heap.size≤Wp);replace HB:=Ya (Yk HB.out hb);clear hb Zf hg;have hcz36_0:w35.cell? ⟨Wp,0,none⟩=some (.int .i64 Zb):=bc Zz 0;have hcz36_1:w35.cell? ⟨Wp,1,none⟩=some (.bool Zc):=bc Zz 1;have hcz36_2:w35.cell? ⟨Wp,2,none⟩=some (.slice Ze Za.length Zd):=bc Zz 2;have hfz36_0:=Yf Zz.out 0;have hfz36_1:=Yf Zz.out 1;have hfz36_2:=Yf Zz.out 2)|((with_reducible refine gate_callee (f:=27) rfl ?_);refine gl (some 17) Try.func27 #[.agg #[.int .i64 Zb, .bool Zc, .slice Ze Za.length Zd], .int .i64 a1, .int .i64 a2] ?_;(with_reducible refine(ebbtideref07_Ends.calls k Zb Zc _ _ Za a1 a2 t217 _ ?side1 ?side2 A5.out).mono ?_);(case side1=>exact kC (Yt Zk.out HB.out));(case side2=>exact Zm.out);rintro e w37 ⟨rfl,hb⟩;refine⟨_,rfl,?_⟩;replace Zz:=Ya (Yn Zz.out hb);replace HB:=Ya (Yk HB.out hb);(try clear hb)));go_ret2;exact⟨by first|rfl|(simp[errW_none,errW_some]<;>rfl)|(simp[*,errW_none,errW_some]<;>rfl),HB.out⟩
 rw[Yx c6] at H;have c6b0:(t217 == 0)=true:=beq_iff_eq.mpr c6;have c6b1:(t217 != 0)=false:=bne_eq_false_iff_eq.mpr c6;clear c6;replace H:=Option.bind_eq_some_iff.mp H;obtain⟨⟨t218,t221⟩,A70,H⟩:=H;try dsimp only at H
 have A7:=Ya A70;clear A70;by_cases c8:t221=0
 rotate_left
 ·rw[Yy c8] at H
  have c8b0:(t221 == 0)=false:=beq_eq_false_iff_ne.mpr c8;have c8b1:(t221 != 0)=true:=bne_iff_ne.mpr c8;simp only[Option.some.injEq,Prod.mk.injEq] at H;obtain⟨rfl,rfl⟩:=H;go_enter Try.func20,Try.ntmps20;go_wp2_with (first|(refine bx 4 24 #[.int .i64 Zb, .bool Zc, .slice Ze Za.length Zd] ?_;intro Wp hg w30 Zf hb;have Zz:=Ya (Zf);have GW216:=Ya (by rw[hg];exact(Yi HB.out):w.heap.size≤Wp);have GE216:=Ya (by rw[hg];exact(Yi HB.out):w.heap.size≤Wp);replace HB:=Ya (Yk HB.out hb);clear hb Zf hg;have hcz31_0:w30.cell? ⟨Wp,0,none⟩=some (.int .i64 Zb):=bc Zz 0;have hcz31_1:w30.cell? ⟨Wp,1,none⟩=some (.bool Zc):=bc Zz 1;have hcz31_2:w30.cell? ⟨Wp,2,none⟩=some (.slice Ze Za.length Zd):=bc Zz 2;have hfz31_0:=Yf Zz.out 0;have hfz31_1:=Yf Zz.out 1;have hfz31_2:=Yf Zz.out 2)|((with_reducible refine gate_callee (f:=27) rfl ?_);refine gl (some 17) Try.func27 #[.agg #[.int .i64 Zb, .bool Zc, .slice Ze Za.length Zd], .int .i64 a1, .int .i64 a2] ?_;(with_reducible refine(ebbtideref07_Ends.calls k Zb Zc _ _ Za a1 a2 t217 _ ?side1 ?side2 A5.out).mono ?_);(case side1=>exact kC (Yt Zk.out HB.out));(case side2=>exact Zm.out);rintro e w32 ⟨rfl,hb⟩;refine⟨_,rfl,?_⟩;replace Zz:=Ya (Yn Zz.out hb);replace HB:=Ya (Yk HB.out hb);(try clear hb);have hcz33_0:w32.cell? ⟨Wp,0,none⟩=some (.int .i64 Zb):=bc Zz 0;have hcz33_1:w32.cell? ⟨Wp,1,none⟩=some (.bool Zc):=bc Zz 1;have hcz33_2:w32.cell? ⟨Wp,2,none⟩=some (.slice Ze Za.length Zd):=bc Zz 2;have hfz33_0:=Yf Zz.out 0;have hfz33_1:=Yf Zz.out 1;have hfz33_2:=Yf Zz.out 2)|((with_reducible refine gate_callee (f:=51) rfl ?_);refine gl (some 24) Try.func51 #[.agg #[.int .i64 Zb, .bool Zc, .slice Ze Za.length Zd], .slice A3 l3.length c3] ?_;(with_reducible refine(ebbtideref07_Balance.calls k Zb Zc _ _ Za _ _ l3 t218 t221 _ ?side1 ?side2 ?side3 ?side4 A7.out).mono ?_);(case side1=>exact kC (Yt Zk.out HB.out));(case side2=>exact Zm.out);(case side3=>exact kC (Yt HR3.out HB.out));(case side4=>exact HC3.out);rintro e w34 ⟨v219,rfl,ho0,hb⟩;refine⟨_,rfl,?_⟩;have HO220:=Ya (Kd.R_lower ho0 (Yi HB.out));replace Zz:=Ya (Yn Zz.out hb);replace HB:=Ya (Yk HB.out hb);(try clear hb);(try clear hb2);(try clear hk);(try clear hi);(try clear ho0)));go_ret2;exact⟨by first|rfl|(simp[errW_none,errW_some]<;>rfl)|(simp[*,errW_none,errW_some]<;>rfl),HB.out⟩
 rw[Yx c8] at H;have c8b0:(t221 == 0)=true:=beq_iff_eq.mpr c8;have c8b1:(t221 != 0)=false:=bne_eq_false_iff_eq.mpr c8;clear c8;have H':=Ya H;clear H;go_enter Try.func20,Try.ntmps20;go_wp2_with (first|(refine bx 4 24 #[.int .i64 Zb, .bool Zc, .slice Ze Za.length Zd] ?_;intro Wp hg w9 Zf hb;have Zz:=Ya (Zf);have GW216:=Ya (by rw[hg];exact(Yi HB.out):w.heap.size≤Wp);have GE216:=Ya (by rw[hg];exact(Yi HB.out):w.heap.size≤Wp);replace HB:=Ya (Yk HB.out hb);clear hb Zf hg;have Wz:w9.cell? ⟨Wp,0,none⟩=some (.int .i64 Zb):=bc Zz 0;have Va:w9.cell? ⟨Wp,1,none⟩=some (.bool Zc):=bc Zz 1;have Vb:w9.cell? ⟨Wp,2,none⟩=some (.slice Ze Za.length Zd):=bc Zz 2;have Vc:=Yf Zz.out 0;have Vd:=Yf Zz.out 1;have Ve:=Yf Zz.out 2)|((with_reducible refine gate_callee (f:=27) rfl ?_);refine gl (some 17) Try.func27 #[.agg #[.int .i64 Zb, .bool Zc, .slice Ze Za.length Zd], .int .i64 a1, .int .i64 a2] ?_;(with_reducible refine(ebbtideref07_Ends.calls k Zb Zc _ _ Za a1 a2 t217 _ ?side1 ?side2 A5.out).mono ?_);(case side1=>exact kC (Yt Zk.out HB.out));(case side2=>exact Zm.out);rintro e w11 ⟨rfl,hb⟩;refine⟨_,rfl,?_⟩;replace Zz:=Ya (Yn Zz.out hb);replace HB:=Ya (Yk HB.out hb);(try clear hb);have Jw:w11.cell? ⟨Wp,0,none⟩=some (.int .i64 Zb):=bc Zz 0;have Jx:w11.cell? ⟨Wp,1,none⟩=some (.bool Zc):=bc Zz 1;have Jy:w11.cell? ⟨Wp,2,none⟩=some (.slice Ze Za.length Zd):=bc Zz 2;have Jz:=Yf Zz.out 0;have hfz12_1:=Yf Zz.out 1;have hfz12_2:=Yf Zz.out 2)|((with_reducible refine gate_callee (f:=51) rfl ?_);refine gl (some 24) Try.func51 #[.agg #[.int .i64 Zb, .bool Zc, .slice Ze Za.length Zd], .slice A3 l3.length c3] ?_;(with_reducible refine(ebbtideref07_Balance.calls k Zb Zc _ _ Za _ _ l3 t218 t221 _ ?side1 ?side2 ?side3 ?side4 A7.out).mono ?_);(case side1=>exact kC (Yt Zk.out HB.out));(case side2=>exact Zm.out);(case side3=>exact kC (Yt HR3.out HB.out));(case side4=>exact HC3.out);rintro e w13 ⟨v219,rfl,ho0,hb⟩;refine⟨_,rfl,?_⟩;have HO220:=Ya (Kd.R_lower ho0 (Yi HB.out));replace Zz:=Ya (Yn Zz.out hb);replace HB:=Ya (Yk HB.out hb);(try clear hb);(try clear hb2);(try clear hk);(try clear hi);(try clear ho0)));go_loopg [13] k (fun kq v13 w'=> ∃ (Zr:Int),v13= .int .i64 Zr∧Aside0 (ebbtideref07_Check.l0 kq a1 a2 t218 Zr Zb Zc Za=some (r1,r2))∧Aside0 (kq≤k)∧Aside0 (Kd.R (Kd.int .i64) 3 w' w.heap.size (fun _=>True) v219 t218)∧Aside0 (w'.heap[Wp]? =some (.cells #[.int .i64 Zb, .bool Zc,(.slice Ze Za.length Zd)] 24 (0,0)))∧Aside0 (Below w.heap.size w w'))
 case atStart=>exact⟨(0),(by first|rfl|(simp;done)|(simp[*];done)),H',⟨Nat.le_refl _⟩,⟨HO220.out⟩,⟨Zz.out⟩,⟨HB.out⟩⟩
 case round=>
  clear H';try clear c3
  try clear c6
  try clear c6b0
  try clear c6b1
  try clear c8
  try clear c8b0
  try clear c8b1
  try clear Wz
  try clear Va
  try clear Vb
  try clear Jw
  try clear Jx
  try clear Jy
  try clear Vc
  try clear Vd
  try clear Ve
  try clear Jz
  try clear hfz12_1
  try clear hfz12_2
  obtain⟨Zr,rfl,HA,HK1,HO_11,Zz,HB⟩:=hrel;cases gk with
  |zero=>exact absurd HA.out (by simp[ebbtideref07_Check.l0])
  |succ k1=>
   have H:=HA.out;clear HA;simp only[ebbtideref07_Check.l0] at H;by_cases c14:Zr<Zb
   rotate_left
   ·rw[Yy c14] at H
    have c14b0:decide (Zr<Zb)=false:=Yw c14;clear c14;by_cases c26:0≤a1
    rotate_left
    ·rw[Yy c26] at H
     exact absurd H (by simp)
    rw[Yx c26] at H;have c26b0:decide (0≤a1)=true:=Yv c26;clear c26;by_cases c27:a1<(t218.length:Int)
    rotate_left
    ·rw[Yy c27] at H
     exact absurd H (by simp)
    rw[Yx c27] at H;have c27b0:decide (a1<(t218.length:Int))=true:=Yv c27;clear c27;simp only[Option.some.injEq,Prod.mk.injEq] at H;obtain⟨rfl,rfl⟩:=H;have hcz28_0:wr.cell? ⟨Wp,0,none⟩=some (.int .i64 Zb):=bc Zz 0;have hcz28_1:wr.cell? ⟨Wp,1,none⟩=some (.bool Zc):=bc Zz 1;have hcz28_2:wr.cell? ⟨Wp,2,none⟩=some (.slice Ze Za.length Zd):=bc Zz 2;have hfz28_0:=Yf Zz.out 0;have hfz28_1:=Yf Zz.out 1;have hfz28_2:=Yf Zz.out 2;obtain⟨Ao29,co29,eo29⟩:=Kd.R_slice HO_11.out;subst eo29;have p223:0≤(a1:Int):=od;have q223:a1<(t218.length:Int):=od;obtain⟨ad223,e223,hx223_0⟩:=Kd.at_int (Kd.R_reads' HO_11.out).2.2 a1 p223 q223;cases e223;replace p223:=eq_true p223;replace q223:=eq_true q223;go_wp2;go_ret2;exact⟨by first|rfl|(simp[errW_none,errW_some]<;>rfl)|(simp[*,errW_none,errW_some]<;>rfl),HB.out⟩
   rw[Yx c14] at H;have c14b0:decide (Zr<Zb)=true:=Yv c14;clear c14;by_cases c15:Zr=a1
   ·rw[Yx c15] at H
    have c15b0:(Zr == a1)=true:=beq_iff_eq.mpr c15;have c15b1:(Zr != a1)=false:=bne_eq_false_iff_eq.mpr c15;clear c15;have H':=Ya H;clear H;have Ut:wr.cell? ⟨Wp,0,none⟩=some (.int .i64 Zb):=bc Zz 0;have Uu:wr.cell? ⟨Wp,1,none⟩=some (.bool Zc):=bc Zz 1;have hcz16_2:wr.cell? ⟨Wp,2,none⟩=some (.slice Ze Za.length Zd):=bc Zz 2;have Uv:=Yf Zz.out 0;have Uw:=Yf Zz.out 1;have hfz16_2:=Yf Zz.out 2;go_wp2;go_roundg k1
    case measure=>have:=HK1.out;omega
    case rel=>exact⟨(wrap64 (Zr+1)),(by first|rfl|(simp;done)|(simp[*];done)),H',⟨by have:=HK1.out;omega⟩,⟨HO_11.out⟩,⟨Zz.out⟩,⟨HB.out⟩⟩
   rw[Yy c15] at H;have c15b0:(Zr == a1)=false:=beq_eq_false_iff_ne.mpr c15;have c15b1:(Zr != a1)=true:=bne_iff_ne.mpr c15;by_cases c17:Zr=a2
   ·rw[Yx c17] at H
    have c17b0:(Zr == a2)=true:=beq_iff_eq.mpr c17;have c17b1:(Zr != a2)=false:=bne_eq_false_iff_eq.mpr c17;clear c17;have H':=Ya H;clear H;have hcz18_0:wr.cell? ⟨Wp,0,none⟩=some (.int .i64 Zb):=bc Zz 0;have hcz18_1:wr.cell? ⟨Wp,1,none⟩=some (.bool Zc):=bc Zz 1;have hcz18_2:wr.cell? ⟨Wp,2,none⟩=some (.slice Ze Za.length Zd):=bc Zz 2;have hfz18_0:=Yf Zz.out 0;have hfz18_1:=Yf Zz.out 1;have hfz18_2:=Yf Zz.out 2;go_wp2;go_roundg k1
    case measure=>have:=HK1.out;omega
    case rel=>exact⟨(wrap64 (Zr+1)),(by first|rfl|(simp;done)|(simp[*];done)),H',⟨by have:=HK1.out;omega⟩,⟨HO_11.out⟩,⟨Zz.out⟩,⟨HB.out⟩⟩
   rw[Yy c17] at H;have c17b0:(Zr == a2)=false:=beq_eq_false_iff_ne.mpr c17;have c17b1:(Zr != a2)=true:=bne_iff_ne.mpr c17;by_cases c19:0≤Zr
   rotate_left
   ·rw[Yy c19] at H
    exact absurd H (by simp)
   rw[Yx c19] at H;have c19b0:decide (0≤Zr)=true:=Yv c19;clear c19;by_cases c20:Zr<(t218.length:Int)
   rotate_left
   ·rw[Yy c20] at H
    exact absurd H (by simp)
   rw[Yx c20] at H;have c20b0:decide (Zr<(t218.length:Int))=true:=Yv c20;clear c20;by_cases c21:(rd t218 Zr)=0
   rotate_left
   ·rw[Yy c21] at H
    have c21b0:((rd t218 Zr) == 0)=false:=beq_eq_false_iff_ne.mpr c21;have c21b1:((rd t218 Zr) != 0)=true:=bne_iff_ne.mpr c21;simp only[Option.some.injEq,Prod.mk.injEq] at H;obtain⟨rfl,rfl⟩:=H;have hcz24_0:wr.cell? ⟨Wp,0,none⟩=some (.int .i64 Zb):=bc Zz 0;have hcz24_1:wr.cell? ⟨Wp,1,none⟩=some (.bool Zc):=bc Zz 1;have hcz24_2:wr.cell? ⟨Wp,2,none⟩=some (.slice Ze Za.length Zd):=bc Zz 2;have hfz24_0:=Yf Zz.out 0;have hfz24_1:=Yf Zz.out 1;have hfz24_2:=Yf Zz.out 2;obtain⟨Ao25,co25,eo25⟩:=Kd.R_slice HO_11.out;subst eo25;have p222:0≤(Zr:Int):=od;have q222:Zr<(t218.length:Int):=od;obtain⟨ad222,e222,hx222_0⟩:=Kd.at_int (Kd.R_reads' HO_11.out).2.2 Zr p222 q222;cases e222;replace p222:=eq_true p222;replace q222:=eq_true q222;go_wp2;go_ret2;exact⟨by first|rfl|(simp[errW_none,errW_some]<;>rfl)|(simp[*,errW_none,errW_some]<;>rfl),HB.out⟩
   rw[Yx c21] at H;have c21b0:((rd t218 Zr) == 0)=true:=beq_iff_eq.mpr c21;have c21b1:((rd t218 Zr) != 0)=false:=bne_eq_false_iff_eq.mpr c21;clear c21;have H':=Ya H;clear H;have hcz22_0:wr.cell? ⟨Wp,0,none⟩=some (.int .i64 Zb):=bc Zz 0;have hcz22_1:wr.cell? ⟨Wp,1,none⟩=some (.bool Zc):=bc Zz 1;have hcz22_2:wr.cell? ⟨Wp,2,none⟩=some (.slice Ze Za.length Zd):=bc Zz 2;have hfz22_0:=Yf Zz.out 0;have hfz22_1:=Yf Zz.out 1;have hfz22_2:=Yf Zz.out 2;obtain⟨Ao23,co23,eo23⟩:=Kd.R_slice HO_11.out;subst eo23;have p222:0≤(Zr:Int):=od;have q222:Zr<(t218.length:Int):=od;obtain⟨ad222,e222,hx222_0⟩:=Kd.at_int (Kd.R_reads' HO_11.out).2.2 Zr p222 q222;cases e222;replace p222:=eq_true p222;replace q222:=eq_true q222;go_wp2;go_roundg k1
   case measure=>have:=HK1.out;omega
   case rel=>exact⟨(wrap64 (Zr+1)),(by first|rfl|(simp;done)|(simp[*];done)),H',⟨by have:=HK1.out;omega⟩,⟨HO_11.out⟩,⟨Zz.out⟩,⟨HB.out⟩⟩
end P
namespace P
attribute [local go_sem] max2_int min2_int max_two min_two max_three min_three max_four min_four
def ebbtideref07_Cost.l0:Nat→List Int→Int→Int→Int→Bool→List (S50)→Option (Int × Int)
 |0,_,_,_,_,_,_=>none
 |k+1,x1,x7,x8,x228000,x228001,x228002=>if x8<(x1.length:Int) then(if 0≤x8 then(if x8<(x228002.length:Int) then(ebbtideref07_Cost.l0 k x1 (wrap64 (x7+(wrap64 ((rd x1 x8) * ((rd_T50 x228002 x8).f3))))) (wrap64 (x8+1)) x228000 x228001 x228002) else(none)) else(none)) else(some (x7,0))
def ebbtideref07_Cost.f (k:Nat) (Zb:Int) (Zc:Bool) (Za:List (S50)) (l1:List Int):Option (Int × Int):=(ebbtideref07_Asked.f k Zb Zc Za l1).bind fun t228=>(if t228=0 then(ebbtideref07_Cost.l0 k l1 0 0 Zb Zc Za) else(some (0,t228)))
set_option maxHeartbeats 8000000 in
set_option maxRecDepth 100000 in
theorem ebbtideref07_Cost.calls (k:Nat) (Zb:Int) (Zc:Bool) (Ze:Option Addr) (Zd:Nat) (Za:List (S50)) (A1:Option Addr) (c1:Nat) (l1:List Int) (r1:Int) (r2:Int) (w:World) (Zo:Kd.C k50 w Ze Za.length Za) (Zp:Za.length≤Zd) (hr1:Kd.C (Kd.int .i64) w A1 l1.length l1) (hc1:l1.length≤c1) (h:ebbtideref07_Cost.f k Zb Zc Za l1=some (r1,r2)):
  Calls Try.prog 39 #[.agg #[.int .i64 Zb, .bool Zc, .slice Ze Za.length Zd], .slice A1 l1.length c1] w fun e w'=>e= .returned (.tuple #[.int .i64 r1, .int .i64 r2])∧Below w.heap.size w w':=by
 have hu24:=Try.underlying24;have Zk:=Ya Zo;have Zm:=Ya Zp;clear Zo Zp;have HR1:=Ya hr1;have HC1:=Ya hc1;clear hr1 hc1;have HB:=Ya (Yo w.heap.size w);have H:=h;unfold ebbtideref07_Cost.f at H;clear h;replace H:=Option.bind_eq_some_iff.mp H;obtain⟨t228,A30,H⟩:=H;try dsimp only at H
 have A3:=Ya A30;clear A30;by_cases c4:t228=0
 rotate_left
 ·rw[Yy c4] at H
  have c4b0:(t228 == 0)=false:=beq_eq_false_iff_ne.mpr c4;have c4b1:(t228 != 0)=true:=bne_iff_ne.mpr c4;simp only[Option.some.injEq,Prod.mk.injEq] at H;obtain⟨rfl,rfl⟩:=H;go_enter Try.func39,Try.ntmps39;go_wp2_with (first|(refine bx 2 24 #[.int .i64 Zb, .bool Zc, .slice Ze Za.length Zd] ?_;intro Ua hg w12 Zf hb;have Xh:=Ya (Zf);have GW227:=Ya ((sz hg));have GE227:=Ya ((sz hg));replace HB:=Ya (Yk bl hb);clear hb Zf hg;have hcz13_0:w12.cell? ⟨Ua,0,none⟩=some (.int .i64 Zb):=bc Xh 0;have hcz13_1:w12.cell? ⟨Ua,1,none⟩=some (.bool Zc):=bc Xh 1;have hcz13_2:w12.cell? ⟨Ua,2,none⟩=some (.slice Ze Za.length Zd):=bc Xh 2;have hfz13_0:=Yf Xh.out 0;have hfz13_1:=Yf Xh.out 1;have hfz13_2:=Yf Xh.out 2)|(go_at_call 40;(with_reducible refine(ebbtideref07_Asked.calls k Zb Zc _ _ Za _ _ l1 t228 _ ?side1 ?side2 ?side3 ?side4 A3.out).mono ?_);(case side1=>exact kC (Yt Zk.out HB.out));(case side2=>exact Zm.out);(case side3=>exact kC (Yt HR1.out HB.out));(case side4=>exact HC1.out);rintro e w14 ⟨rfl,hb⟩;replace Xh:=Ya (Yn (bk Xh) hb);replace HB:=Ya (Yk bl hb);(try clear hb)));repeat(go_quiet (first|(refine bx 2 24 #[.int .i64 Zb, .bool Zc, .slice Ze Za.length Zd] ?_;intro Ua hg w12 Zf hb;have Xh:=Ya (Zf);have GW227:=Ya ((sz hg));have GE227:=Ya ((sz hg));replace HB:=Ya (Yk bl hb);clear hb Zf hg;have hcz13_0:w12.cell? ⟨Ua,0,none⟩=some (.int .i64 Zb):=bc Xh 0;have hcz13_1:w12.cell? ⟨Ua,1,none⟩=some (.bool Zc):=bc Xh 1;have hcz13_2:w12.cell? ⟨Ua,2,none⟩=some (.slice Ze Za.length Zd):=bc Xh 2;have hfz13_0:=Yf Xh.out 0;have hfz13_1:=Yf Xh.out 1;have hfz13_2:=Yf Xh.out 2)|(go_at_call 40;(with_reducible refine(ebbtideref07_Asked.calls k Zb Zc _ _ Za _ _ l1 t228 _ ?side1 ?side2 ?side3 ?side4 A3.out).mono ?_);(case side1=>exact kC (Yt Zk.out HB.out));(case side2=>exact Zm.out);(case side3=>exact kC (Yt HR1.out HB.out));(case side4=>exact HC1.out);rintro e w14 ⟨rfl,hb⟩;replace Xh:=Ya (Yn (bk Xh) hb);replace HB:=Ya (Yk bl hb);(try clear hb)));try go_wp2_with (first|(refine bx 2 24 #[.int .i64 Zb, .bool Zc, .slice Ze Za.length Zd] ?_;intro Ua hg w12 Zf hb;have Xh:=Ya (Zf);have GW227:=Ya ((sz hg));have GE227:=Ya ((sz hg));replace HB:=Ya (Yk bl hb);clear hb Zf hg;have hcz13_0:w12.cell? ⟨Ua,0,none⟩=some (.int .i64 Zb):=bc Xh 0;have hcz13_1:w12.cell? ⟨Ua,1,none⟩=some (.bool Zc):=bc Xh 1;have hcz13_2:w12.cell? ⟨Ua,2,none⟩=some (.slice Ze Za.length Zd):=bc Xh 2;have hfz13_0:=Yf Xh.out 0;have hfz13_1:=Yf Xh.out 1;have hfz13_2:=Yf Xh.out 2)|(go_at_call 40;(with_reducible refine(ebbtideref07_Asked.calls k Zb Zc _ _ Za _ _ l1 t228 _ ?side1 ?side2 ?side3 ?side4 A3.out).mono ?_);(case side1=>exact kC (Yt Zk.out HB.out));(case side2=>exact Zm.out);(case side3=>exact kC (Yt HR1.out HB.out));(case side4=>exact HC1.out);rintro e w14 ⟨rfl,hb⟩;replace Xh:=Ya (Yn (bk Xh) hb);replace HB:=Ya (Yk bl hb);(try clear hb);(try clear hb2);(try clear hk);(try clear hi))))
  go_ret2;exact⟨by first|rfl|(simp[errW_none,errW_some]<;>rfl)|(simp[*,errW_none,errW_some]<;>rfl),HB.out⟩
 rw[Yx c4] at H;have c4b0:(t228 == 0)=true:=beq_iff_eq.mpr c4;have c4b1:(t228 != 0)=false:=bne_eq_false_iff_eq.mpr c4;clear c4;have H':=Ya H;clear H;go_enter Try.func39,Try.ntmps39;go_wp2_with (first|(refine bx 2 24 #[.int .i64 Zb, .bool Zc, .slice Ze Za.length Zd] ?_;intro Ua hg w5 Zf hb;have Xh:=Ya (Zf);have GW227:=Ya ((sz hg));have GE227:=Ya ((sz hg));replace HB:=Ya (Yk bl hb);clear hb Zf hg;have hcz6_0:w5.cell? ⟨Ua,0,none⟩=some (.int .i64 Zb):=bc Xh 0;have hcz6_1:w5.cell? ⟨Ua,1,none⟩=some (.bool Zc):=bc Xh 1;have hcz6_2:w5.cell? ⟨Ua,2,none⟩=some (.slice Ze Za.length Zd):=bc Xh 2;have hfz6_0:=Yf Xh.out 0;have hfz6_1:=Yf Xh.out 1;have hfz6_2:=Yf Xh.out 2)|(go_at_call 40;(with_reducible refine(ebbtideref07_Asked.calls k Zb Zc _ _ Za _ _ l1 t228 _ ?side1 ?side2 ?side3 ?side4 A3.out).mono ?_);(case side1=>exact kC (Yt Zk.out HB.out));(case side2=>exact Zm.out);(case side3=>exact kC (Yt HR1.out HB.out));(case side4=>exact HC1.out);rintro e w7 ⟨rfl,hb⟩;replace Xh:=Ya (Yn (bk Xh) hb);replace HB:=Ya (Yk bl hb);(try clear hb)));repeat(go_quiet (first|(refine bx 2 24 #[.int .i64 Zb, .bool Zc, .slice Ze Za.length Zd] ?_;intro Ua hg w5 Zf hb;have Xh:=Ya (Zf);have GW227:=Ya ((sz hg));have GE227:=Ya ((sz hg));replace HB:=Ya (Yk bl hb);clear hb Zf hg;have hcz6_0:w5.cell? ⟨Ua,0,none⟩=some (.int .i64 Zb):=bc Xh 0;have hcz6_1:w5.cell? ⟨Ua,1,none⟩=some (.bool Zc):=bc Xh 1;have hcz6_2:w5.cell? ⟨Ua,2,none⟩=some (.slice Ze Za.length Zd):=bc Xh 2;have hfz6_0:=Yf Xh.out 0;have hfz6_1:=Yf Xh.out 1;have hfz6_2:=Yf Xh.out 2)|(go_at_call 40;(with_reducible refine(ebbtideref07_Asked.calls k Zb Zc _ _ Za _ _ l1 t228 _ ?side1 ?side2 ?side3 ?side4 A3.out).mono ?_);(case side1=>exact kC (Yt Zk.out HB.out));(case side2=>exact Zm.out);(case side3=>exact kC (Yt HR1.out HB.out));(case side4=>exact HC1.out);rintro e w7 ⟨rfl,hb⟩;replace Xh:=Ya (Yn (bk Xh) hb);replace HB:=Ya (Yk bl hb);(try clear hb)));try go_wp2_with (first|(refine bx 2 24 #[.int .i64 Zb, .bool Zc, .slice Ze Za.length Zd] ?_;intro Ua hg w5 Zf hb;have Xh:=Ya (Zf);have GW227:=Ya ((sz hg));have GE227:=Ya ((sz hg));replace HB:=Ya (Yk bl hb);clear hb Zf hg;have hcz6_0:w5.cell? ⟨Ua,0,none⟩=some (.int .i64 Zb):=bc Xh 0;have hcz6_1:w5.cell? ⟨Ua,1,none⟩=some (.bool Zc):=bc Xh 1;have hcz6_2:w5.cell? ⟨Ua,2,none⟩=some (.slice Ze Za.length Zd):=bc Xh 2;have hfz6_0:=Yf Xh.out 0;have hfz6_1:=Yf Xh.out 1;have hfz6_2:=Yf Xh.out 2)|(go_at_call 40;(with_reducible refine(ebbtideref07_Asked.calls k Zb Zc _ _ Za _ _ l1 t228 _ ?side1 ?side2 ?side3 ?side4 A3.out).mono ?_);(case side1=>exact kC (Yt Zk.out HB.out));(case side2=>exact Zm.out);(case side3=>exact kC (Yt HR1.out HB.out));(case side4=>exact HC1.out);rintro e w7 ⟨rfl,hb⟩;replace Xh:=Ya (Yn (bk Xh) hb);replace HB:=Ya (Yk bl hb);(try clear hb);(try clear hb2);(try clear hk);(try clear hi))))
 go_loopg [7,8] k (fun kq v7 v8 w'=> ∃ (Wj:Int) (Xd:Int),v7= .int .i64 Wj∧v8= .int .i64 Xd∧Aside0 (ebbtideref07_Cost.l0 kq l1 Wj Xd Zb Zc Za=some (r1,r2))∧Aside0 (kq≤k)∧Aside0 (w'.heap[Ua]? =some (.cells #[.int .i64 Zb, .bool Zc,(.slice Ze Za.length Zd)] 24 (0,0)))∧Aside0 (Below w.heap.size w w'))
 case atStart=>exact⟨(0),(0),(by first|rfl|(simp;done)|(simp[*];done)),(by first|rfl|(simp;done)|(simp[*];done)),H',⟨Nat.le_refl _⟩,⟨Xh.out⟩,⟨HB.out⟩⟩
 case round=>
  clear H';try clear c1
  try clear c4
  try clear c4b0
  try clear c4b1
  try clear hcz6_0
  try clear hcz6_1
  try clear hcz6_2
  try clear hfz6_0
  try clear hfz6_1
  try clear hfz6_2
  obtain⟨Wj,Xd,rfl,rfl,HA,HK1,Xh,HB⟩:=hrel;cases gk with
  |zero=>exact absurd HA.out (by simp[ebbtideref07_Cost.l0])
  |succ k1=>
   have H:=HA.out;clear HA;simp only[ebbtideref07_Cost.l0] at H;by_cases c8:Xd<(l1.length:Int)
   rotate_left
   ·rw[Yy c8] at H
    have c8b0:decide (Xd<(l1.length:Int))=false:=Yw c8;clear c8;simp only[Option.some.injEq,Prod.mk.injEq] at H;obtain⟨rfl,rfl⟩:=H;go_wp2;repeat(go_quiet (fail);try go_wp2)
    go_ret2;exact⟨by first|rfl|(simp[errW_none,errW_some]<;>rfl)|(simp[*,errW_none,errW_some]<;>rfl),HB.out⟩
   rw[Yx c8] at H;have c8b0:decide (Xd<(l1.length:Int))=true:=Yv c8;clear c8;by_cases c9:0≤Xd
   rotate_left
   ·rw[Yy c9] at H
    exact absurd H (by simp)
   rw[Yx c9] at H;have c9b0:decide (0≤Xd)=true:=Yv c9;clear c9;by_cases c10:Xd<(Za.length:Int)
   rotate_left
   ·rw[Yy c10] at H
    exact absurd H (by simp)
   rw[Yx c10] at H;have c10b0:decide (Xd<(Za.length:Int))=true:=Yv c10;clear c10;have H':=Ya H;clear H;have p229:0≤(Xd:Int):=od;have q229:Xd<(l1.length:Int):=od;obtain⟨ad229,e229,hx229_0⟩:=Kd.at_int HR1.out Xd p229 q229;cases e229;replace hx229_0:=hc HB hx229_0;replace p229:=eq_true p229;replace q229:=eq_true q229;have hcz11_0:wr.cell? ⟨Ua,0,none⟩=some (.int .i64 Zb):=bc Xh 0;have hcz11_1:wr.cell? ⟨Ua,1,none⟩=some (.bool Zc):=bc Xh 1;have hcz11_2:wr.cell? ⟨Ua,2,none⟩=some (.slice Ze Za.length Zd):=bc Xh 2;have hfz11_0:=Yf Xh.out 0;have hfz11_1:=Yf Xh.out 1;have hfz11_2:=Yf Xh.out 2;have p230:0≤(Xd:Int):=od;have q230:Xd<(Za.length:Int):=od;obtain⟨ad230,e230,hx230_0,hx230_1,hx230_2,hx230_3⟩:=at_T50 Zk.out Xd p230 q230;cases e230;replace hx230_0:=hc HB hx230_0;replace hx230_1:=hc HB hx230_1;replace hx230_2:=hc HB hx230_2;replace hx230_3:=hc HB hx230_3;replace p230:=eq_true p230;replace q230:=eq_true q230;go_wp2;repeat(go_quiet (fail);try go_wp2)
   go_roundg k1
   case measure=>have:=HK1.out;omega
   case rel=>exact⟨(wrap64 (Wj+(wrap64 ((rd l1 Xd) * ((rd_T50 Za Xd).f3))))),(wrap64 (Xd+1)),(by first|rfl|(simp;done)|(simp[*];done)),(by first|rfl|(simp;done)|(simp[*];done)),H',⟨by have:=HK1.out;omega⟩,⟨bk Xh⟩,⟨bl⟩⟩
end P
namespace P
attribute [local go_sem] max2_int min2_int max_two min_two max_three min_three max_four min_four
def ebbtideref12_Worth.f (k:Nat) (Zb:Int) (Zc:Bool) (Za:List (S50)) (a1:Int) (a2:Int) (l3:List Int) (a4:Int):Option (Int × Int):=(ebbtideref12_Asked.f k Zb Zc Za a1 a2 a4).bind fun t232=>(if t232=0 then((ebbtideref07_Check.f k Zb Zc Za a1 a2 l3).bind fun bt233=>(if bt233.2=0 then((ebbtideref07_Cost.f k Zb Zc Za l3).bind fun bt235=>(some (wrap64 ((wrap64 ((wrap64 (a4+1)) * bt233.1)) - bt235.1),0))) else(some (0,bt233.2)))) else(some (0,t232)))
set_option maxHeartbeats 8000000 in
set_option maxRecDepth 100000 in
theorem ebbtideref12_Worth.calls (k:Nat) (Zb:Int) (Zc:Bool) (Ze:Option Addr) (Zd:Nat) (Za:List (S50)) (a1:Int) (a2:Int) (A3:Option Addr) (c3:Nat) (l3:List Int) (a4:Int) (r1:Int) (r2:Int) (w:World) (Zo:Kd.C k50 w Ze Za.length Za) (Zp:Za.length≤Zd) (hr3:Kd.C (Kd.int .i64) w A3 l3.length l3) (hc3:l3.length≤c3) (h:ebbtideref12_Worth.f k Zb Zc Za a1 a2 l3 a4=some (r1,r2)):
  Calls Try.prog 15 #[.agg #[.int .i64 Zb, .bool Zc, .slice Ze Za.length Zd], .int .i64 a1, .int .i64 a2, .slice A3 l3.length c3, .int .i64 a4] w fun e w'=>e= .returned (.tuple #[.int .i64 r1, .int .i64 r2])∧Below w.heap.size w w':=by
 have hu24:=Try.underlying24;have Zk:=Ya Zo;have Zm:=Ya Zp;clear Zo Zp;have HR3:=Ya hr3;have HC3:=Ya hc3;clear hr3 hc3;have HB:=Ya (Yo w.heap.size w);have H:=h;unfold ebbtideref12_Worth.f at H;clear h;replace H:=Option.bind_eq_some_iff.mp H;obtain⟨t232,A60,H⟩:=H;try dsimp only at H
 have A6:=Ya A60;clear A60;by_cases c7:t232=0
 rotate_left
 ·rw[Yy c7] at H
  have c7b0:(t232 == 0)=false:=beq_eq_false_iff_ne.mpr c7;have c7b1:(t232 != 0)=true:=bne_iff_ne.mpr c7;simp only[Option.some.injEq,Prod.mk.injEq] at H;obtain⟨rfl,rfl⟩:=H;go_enter Try.func15,Try.ntmps15;go_wp2_with (first|(refine bx 5 24 #[.int .i64 Zb, .bool Zc, .slice Ze Za.length Zd] ?_;intro Jq hg w23 Zf hb;have Xu:=Ya (Zf);have GW231:=Ya ((sz hg));have GE231:=Ya ((sz hg));replace HB:=Ya (Yk bl hb);clear hb Zf hg;have hcz24_0:w23.cell? ⟨Jq,0,none⟩=some (.int .i64 Zb):=bc Xu 0;have hcz24_1:w23.cell? ⟨Jq,1,none⟩=some (.bool Zc):=bc Xu 1;have hcz24_2:w23.cell? ⟨Jq,2,none⟩=some (.slice Ze Za.length Zd):=bc Xu 2;have hfz24_0:=Yf Xu.out 0;have hfz24_1:=Yf Xu.out 1;have hfz24_2:=Yf Xu.out 2)|((with_reducible refine gate_callee (f:=14) rfl ?_);refine gl (some 21) Try.func14 #[.agg #[.int .i64 Zb, .bool Zc, .slice Ze Za.length Zd], .int .i64 a1, .int .i64 a2, .int .i64 a4] ?_;(with_reducible refine(ebbtideref12_Asked.calls k Zb Zc _ _ Za a1 a2 a4 t232 _ ?side1 ?side2 A6.out).mono ?_);(case side1=>exact kC (Yt Zk.out HB.out));(case side2=>exact Zm.out);rintro e w25 ⟨rfl,hb⟩;refine⟨_,rfl,?_⟩;replace Xu:=Ya (Yn (bk Xu) hb);replace HB:=Ya (Yk bl hb);(try clear hb)));go_ret2;exact⟨by first|rfl|(simp[errW_none,errW_some]<;>rfl)|(simp[*,errW_none,errW_some]<;>rfl),HB.out⟩
 rw[Yx c7] at H;have c7b0:(t232 == 0)=true:=beq_iff_eq.mpr c7;have c7b1:(t232 != 0)=false:=bne_eq_false_iff_eq.mpr c7;clear c7;replace H:=Option.bind_eq_some_iff.mp H;obtain⟨⟨t233,t234⟩,A80,H⟩:=H;try dsimp only at H
 have A8:=Ya A80;clear A80;by_cases c9:t234=0
 rotate_left
 ·rw[Yy c9] at H
  have c9b0:(t234 == 0)=false:=beq_eq_false_iff_ne.mpr c9;have c9b1:(t234 != 0)=true:=bne_iff_ne.mpr c9;simp only[Option.some.injEq,Prod.mk.injEq] at H;obtain⟨rfl,rfl⟩:=H;go_enter Try.func15,Try.ntmps15;go_wp2_with (first|(refine bx 5 24 #[.int .i64 Zb, .bool Zc, .slice Ze Za.length Zd] ?_;intro Jq hg w18 Zf hb;have Xu:=Ya (Zf);have GW231:=Ya ((sz hg));have GE231:=Ya ((sz hg));replace HB:=Ya (Yk bl hb);clear hb Zf hg;have hcz19_0:w18.cell? ⟨Jq,0,none⟩=some (.int .i64 Zb):=bc Xu 0;have hcz19_1:w18.cell? ⟨Jq,1,none⟩=some (.bool Zc):=bc Xu 1;have hcz19_2:w18.cell? ⟨Jq,2,none⟩=some (.slice Ze Za.length Zd):=bc Xu 2;have hfz19_0:=Yf Xu.out 0;have hfz19_1:=Yf Xu.out 1;have hfz19_2:=Yf Xu.out 2)|((with_reducible refine gate_callee (f:=14) rfl ?_);refine gl (some 21) Try.func14 #[.agg #[.int .i64 Zb, .bool Zc, .slice Ze Za.length Zd], .int .i64 a1, .int .i64 a2, .int .i64 a4] ?_;(with_reducible refine(ebbtideref12_Asked.calls k Zb Zc _ _ Za a1 a2 a4 t232 _ ?side1 ?side2 A6.out).mono ?_);(case side1=>exact kC (Yt Zk.out HB.out));(case side2=>exact Zm.out);rintro e w20 ⟨rfl,hb⟩;refine⟨_,rfl,?_⟩;replace Xu:=Ya (Yn (bk Xu) hb);replace HB:=Ya (Yk bl hb);(try clear hb);have hcz21_0:w20.cell? ⟨Jq,0,none⟩=some (.int .i64 Zb):=bc Xu 0;have hcz21_1:w20.cell? ⟨Jq,1,none⟩=some (.bool Zc):=bc Xu 1;have hcz21_2:w20.cell? ⟨Jq,2,none⟩=some (.slice Ze Za.length Zd):=bc Xu 2;have hfz21_0:=Yf Xu.out 0;have hfz21_1:=Yf Xu.out 1;have hfz21_2:=Yf Xu.out 2)|((with_reducible refine gate_callee (f:=20) rfl ?_);refine gl (some 30) Try.func20 #[.agg #[.int .i64 Zb, .bool Zc, .slice Ze Za.length Zd], .int .i64 a1, .int .i64 a2, .slice A3 l3.length c3] ?_;(with_reducible refine(ebbtideref07_Check.calls k Zb Zc _ _ Za a1 a2 _ _ l3 t233 t234 _ ?side1 ?side2 ?side3 ?side4 A8.out).mono ?_);(case side1=>exact kC (Yt Zk.out HB.out));(case side2=>exact Zm.out);(case side3=>exact kC (Yt HR3.out HB.out));(case side4=>exact HC3.out);rintro e w22 ⟨rfl,hb⟩;refine⟨_,rfl,?_⟩;replace Xu:=Ya (Yn (bk Xu) hb);replace HB:=Ya (Yk bl hb);(try clear hb);(try clear hb2);(try clear hk);(try clear hi)));go_ret2;exact⟨by first|rfl|(simp[errW_none,errW_some]<;>rfl)|(simp[*,errW_none,errW_some]<;>rfl),HB.out⟩
 rw[Yx c9] at H;have c9b0:(t234 == 0)=true:=beq_iff_eq.mpr c9;have c9b1:(t234 != 0)=false:=bne_eq_false_iff_eq.mpr c9;clear c9;replace H:=Option.bind_eq_some_iff.mp H;obtain⟨⟨t235,t236⟩,A100,H⟩:=H;try dsimp only at H
 have A10:=Ya A100;clear A100;simp only[Option.some.injEq,Prod.mk.injEq] at H;obtain⟨rfl,rfl⟩:=H;go_enter Try.func15,Try.ntmps15;go_wp2_with (first|(refine bx 5 24 #[.int .i64 Zb, .bool Zc, .slice Ze Za.length Zd] ?_;intro Jq hg w11 Zf hb;have Xu:=Ya (Zf);have GW231:=Ya ((sz hg));have GE231:=Ya ((sz hg));replace HB:=Ya (Yk bl hb);clear hb Zf hg;have Jw:w11.cell? ⟨Jq,0,none⟩=some (.int .i64 Zb):=bc Xu 0;have Jx:w11.cell? ⟨Jq,1,none⟩=some (.bool Zc):=bc Xu 1;have Jy:w11.cell? ⟨Jq,2,none⟩=some (.slice Ze Za.length Zd):=bc Xu 2;have Jz:=Yf Xu.out 0;have hfz12_1:=Yf Xu.out 1;have hfz12_2:=Yf Xu.out 2)|((with_reducible refine gate_callee (f:=14) rfl ?_);refine gl (some 21) Try.func14 #[.agg #[.int .i64 Zb, .bool Zc, .slice Ze Za.length Zd], .int .i64 a1, .int .i64 a2, .int .i64 a4] ?_;(with_reducible refine(ebbtideref12_Asked.calls k Zb Zc _ _ Za a1 a2 a4 t232 _ ?side1 ?side2 A6.out).mono ?_);(case side1=>exact kC (Yt Zk.out HB.out));(case side2=>exact Zm.out);rintro e w13 ⟨rfl,hb⟩;refine⟨_,rfl,?_⟩;replace Xu:=Ya (Yn (bk Xu) hb);replace HB:=Ya (Yk bl hb);(try clear hb);have Vu:w13.cell? ⟨Jq,0,none⟩=some (.int .i64 Zb):=bc Xu 0;have Uc:w13.cell? ⟨Jq,1,none⟩=some (.bool Zc):=bc Xu 1;have Ud:w13.cell? ⟨Jq,2,none⟩=some (.slice Ze Za.length Zd):=bc Xu 2;have Ue:=Yf Xu.out 0;have Uf:=Yf Xu.out 1;have Ug:=Yf Xu.out 2)|((with_reducible refine gate_callee (f:=20) rfl ?_);refine gl (some 30) Try.func20 #[.agg #[.int .i64 Zb, .bool Zc, .slice Ze Za.length Zd], .int .i64 a1, .int .i64 a2, .slice A3 l3.length c3] ?_;(with_reducible refine(ebbtideref07_Check.calls k Zb Zc _ _ Za a1 a2 _ _ l3 t233 t234 _ ?side1 ?side2 ?side3 ?side4 A8.out).mono ?_);(case side1=>exact kC (Yt Zk.out HB.out));(case side2=>exact Zm.out);(case side3=>exact kC (Yt HR3.out HB.out));(case side4=>exact HC3.out);rintro e w15 ⟨rfl,hb⟩;refine⟨_,rfl,?_⟩;replace Xu:=Ya (Yn (bk Xu) hb);replace HB:=Ya (Yk bl hb);(try clear hb);(try clear hb2);(try clear hk);(try clear hi);have Ut:w15.cell? ⟨Jq,0,none⟩=some (.int .i64 Zb):=bc Xu 0;have Uu:w15.cell? ⟨Jq,1,none⟩=some (.bool Zc):=bc Xu 1;have hcz16_2:w15.cell? ⟨Jq,2,none⟩=some (.slice Ze Za.length Zd):=bc Xu 2;have Uv:=Yf Xu.out 0;have Uw:=Yf Xu.out 1;have hfz16_2:=Yf Xu.out 2)|((with_reducible refine gate_callee (f:=39) rfl ?_);refine gl (some 39) Try.func39 #[.agg #[.int .i64 Zb, .bool Zc, .slice Ze Za.length Zd], .slice A3 l3.length c3] ?_;(with_reducible refine(ebbtideref07_Cost.calls k Zb Zc _ _ Za _ _ l3 t235 t236 _ ?side1 ?side2 ?side3 ?side4 A10.out).mono ?_);(case side1=>exact kC (Yt Zk.out HB.out));(case side2=>exact Zm.out);(case side3=>exact kC (Yt HR3.out HB.out));(case side4=>exact HC3.out);rintro e w17 ⟨rfl,hb⟩;refine⟨_,rfl,?_⟩;replace Xu:=Ya (Yn (bk Xu) hb);replace HB:=Ya (Yk bl hb);(try clear hb);(try clear hb2);(try clear hk);(try clear hi)));go_ret2;exact⟨by first|rfl|(simp[errW_none,errW_some]<;>rfl)|(simp[*,errW_none,errW_some]<;>rfl),HB.out⟩
end P
namespace P
attribute [local go_sem] max2_int min2_int max_two min_two max_three min_three max_four min_four
def ebbtideref11_Free.l0:Nat→List Int→Int→Int→Bool→List (S50)→Option (Bool × Int)
 |0,_,_,_,_,_=>none
 |k+1,x1,x7,x437000,x437001,x437002=>if x7<x437000 then((ebbtideref11_From.f k x437000 x437001 x437002 x1 x7).bind fun bt438=>(if bt438.2.2=true then(ebbtideref11_Free.l0 k x1 (wrap64 (x7+1)) x437000 x437001 x437002) else(some (false,0)))) else(some (true,0))
def ebbtideref11_Free.f (k:Nat) (Zb:Int) (Zc:Bool) (Za:List (S50)) (l1:List Int):Option (Bool × Int):=(ebbtideref07_Asked.f k Zb Zc Za l1).bind fun t437=>(if t437=0 then(ebbtideref11_Free.l0 k l1 0 Zb Zc Za) else(some (false,t437)))
set_option maxHeartbeats 8000000 in
set_option maxRecDepth 100000 in
theorem ebbtideref11_Free.calls (k:Nat) (Zb:Int) (Zc:Bool) (Ze:Option Addr) (Zd:Nat) (Za:List (S50)) (A1:Option Addr) (c1:Nat) (l1:List Int) (r1:Bool) (r2:Int) (w:World) (Zo:Kd.C k50 w Ze Za.length Za) (Zp:Za.length≤Zd) (hr1:Kd.C (Kd.int .i64) w A1 l1.length l1) (hc1:l1.length≤c1) (h:ebbtideref11_Free.f k Zb Zc Za l1=some (r1,r2)):
  Calls Try.prog 16 #[.agg #[.int .i64 Zb, .bool Zc, .slice Ze Za.length Zd], .slice A1 l1.length c1] w fun e w'=>e= .returned (.tuple #[.bool r1, .int .i64 r2])∧Below w.heap.size w w':=by
 have hu24:=Try.underlying24;have hu40:=Try.underlying40;have hfd40: ∀ (A:Option Addr) (m c:Nat) (B:Option Addr) (n d:Nat) (b:Bool) (w:World),(Instr.field 40 (.agg #[.slice A m c, .slice B n d, .bool b]) 2).run Try.prog w= .ok (.bool b) w:=fun _ _ _ _ _ _ _ _=>by kernel_rfl
 have Zk:=Ya Zo;have Zm:=Ya Zp;clear Zo Zp;have HR1:=Ya hr1;have HC1:=Ya hc1;clear hr1 hc1;have HB:=Ya (Yo w.heap.size w);have H:=h;unfold ebbtideref11_Free.f at H;clear h;replace H:=Option.bind_eq_some_iff.mp H;obtain⟨t437,A30,H⟩:=H;try dsimp only at H
 have A3:=Ya A30;clear A30;by_cases c4:t437=0
 rotate_left
 ·rw[Yy c4] at H
  have c4b0:(t437 == 0)=false:=beq_eq_false_iff_ne.mpr c4;have c4b1:(t437 != 0)=true:=bne_iff_ne.mpr c4;simp only[Option.some.injEq,Prod.mk.injEq] at H;obtain⟨rfl,rfl⟩:=H;go_enter Try.func16,Try.ntmps16;go_wp2_with (first|(refine bx 2 24 #[.int .i64 Zb, .bool Zc, .slice Ze Za.length Zd] ?_;intro gb436 hg w16 Zf hb;have Wh:=Ya (Zf);have GW436:=Ya ((sz hg));have GE436:=Ya ((sz hg));replace HB:=Ya (Yk bl hb);clear hb Zf hg;have Up:w16.cell? ⟨gb436,0,none⟩=some (.int .i64 Zb):=bc Wh 0;have Uq:w16.cell? ⟨gb436,1,none⟩=some (.bool Zc):=bc Wh 1;have hcz17_2:w16.cell? ⟨gb436,2,none⟩=some (.slice Ze Za.length Zd):=bc Wh 2;have Ur:=Yf Wh.out 0;have Us:=Yf Wh.out 1;have hfz17_2:=Yf Wh.out 2)|((with_reducible refine gate_callee (f:=40) rfl ?_);refine gl (some 10) Try.func40 #[.agg #[.int .i64 Zb, .bool Zc, .slice Ze Za.length Zd], .slice A1 l1.length c1] ?_;(with_reducible refine(ebbtideref07_Asked.calls k Zb Zc _ _ Za _ _ l1 t437 _ ?side1 ?side2 ?side3 ?side4 A3.out).mono ?_);(case side1=>exact kC (Yt Zk.out HB.out));(case side2=>exact Zm.out);(case side3=>exact kC (Yt HR1.out HB.out));(case side4=>exact HC1.out);rintro e w18 ⟨rfl,hb⟩;refine⟨_,rfl,?_⟩;replace Wh:=Ya (Yn (bk Wh) hb);replace HB:=Ya (Yk bl hb);(try clear hb)));go_ret2;exact⟨by first|rfl|(simp[errW_none,errW_some]<;>rfl)|(simp[*,errW_none,errW_some]<;>rfl),HB.out⟩
 rw[Yx c4] at H;have c4b0:(t437 == 0)=true:=beq_iff_eq.mpr c4;have c4b1:(t437 != 0)=false:=bne_eq_false_iff_eq.mpr c4;clear c4;have H':=Ya H;clear H;go_enter Try.func16,Try.ntmps16;go_wp2_with (first|(refine bx 2 24 #[.int .i64 Zb, .bool Zc, .slice Ze Za.length Zd] ?_;intro gb436 hg w5 Zf hb;have Wh:=Ya (Zf);have GW436:=Ya ((sz hg));have GE436:=Ya ((sz hg));replace HB:=Ya (Yk bl hb);clear hb Zf hg;have hcz6_0:w5.cell? ⟨gb436,0,none⟩=some (.int .i64 Zb):=bc Wh 0;have hcz6_1:w5.cell? ⟨gb436,1,none⟩=some (.bool Zc):=bc Wh 1;have hcz6_2:w5.cell? ⟨gb436,2,none⟩=some (.slice Ze Za.length Zd):=bc Wh 2;have hfz6_0:=Yf Wh.out 0;have hfz6_1:=Yf Wh.out 1;have hfz6_2:=Yf Wh.out 2)|((with_reducible refine gate_callee (f:=40) rfl ?_);refine gl (some 10) Try.func40 #[.agg #[.int .i64 Zb, .bool Zc, .slice Ze Za.length Zd], .slice A1 l1.length c1] ?_;(with_reducible refine(ebbtideref07_Asked.calls k Zb Zc _ _ Za _ _ l1 t437 _ ?side1 ?side2 ?side3 ?side4 A3.out).mono ?_);(case side1=>exact kC (Yt Zk.out HB.out));(case side2=>exact Zm.out);(case side3=>exact kC (Yt HR1.out HB.out));(case side4=>exact HC1.out);rintro e w7 ⟨rfl,hb⟩;refine⟨_,rfl,?_⟩;replace Wh:=Ya (Yn (bk Wh) hb);replace HB:=Ya (Yk bl hb);(try clear hb)));go_loopg [7] k (fun kq v7 w'=> ∃ (Wj:Int),v7= .int .i64 Wj∧Aside0 (ebbtideref11_Free.l0 kq l1 Wj Zb Zc Za=some (r1,r2))∧Aside0 (kq≤k)∧Aside0 (w'.heap[gb436]? =some (.cells #[.int .i64 Zb, .bool Zc,(.slice Ze Za.length Zd)] 24 (0,0)))∧Aside0 (Below w.heap.size w w'))
 case atStart=>exact⟨(0),(by first|rfl|(simp;done)|(simp[*];done)),H',⟨Nat.le_refl _⟩,⟨Wh.out⟩,⟨HB.out⟩⟩
 case round=>
  clear H';try clear c1
  try clear c4
  try clear c4b0
  try clear c4b1
  try clear hcz6_0
  try clear hcz6_1
  try clear hcz6_2
  try clear hfz6_0
  try clear hfz6_1
  try clear hfz6_2
  obtain⟨Wj,rfl,HA,HK1,Wh,HB⟩:=hrel;cases gk with
  |zero=>exact absurd HA.out (by simp[ebbtideref11_Free.l0])
  |succ k1=>
   have H:=HA.out;clear HA;simp only[ebbtideref11_Free.l0] at H;by_cases c8:Wj<Zb
   rotate_left
   ·rw[Yy c8] at H
    have c8b0:decide (Wj<Zb)=false:=Yw c8;clear c8;simp only[Option.some.injEq,Prod.mk.injEq] at H;obtain⟨rfl,rfl⟩:=H;have hcz15_0:wr.cell? ⟨gb436,0,none⟩=some (.int .i64 Zb):=bc Wh 0;have hcz15_1:wr.cell? ⟨gb436,1,none⟩=some (.bool Zc):=bc Wh 1;have hcz15_2:wr.cell? ⟨gb436,2,none⟩=some (.slice Ze Za.length Zd):=bc Wh 2;have hfz15_0:=Yf Wh.out 0;have hfz15_1:=Yf Wh.out 1;have hfz15_2:=Yf Wh.out 2;go_wp2;go_ret2;exact⟨by first|rfl|(simp[errW_none,errW_some]<;>rfl)|(simp[*,errW_none,errW_some]<;>rfl),HB.out⟩
   rw[Yx c8] at H;have c8b0:decide (Wj<Zb)=true:=Yv c8;clear c8;replace H:=Option.bind_eq_some_iff.mp H;obtain⟨⟨t438,t441,t444⟩,A90,H⟩:=H;try dsimp only at H
   have A9:=Ya A90;clear A90;by_cases c10:t444=true
   rotate_left
   ·replace c10:=Bool.eq_false_iff.mpr c10
    subst c10;rw[Yy (show ¬ (false=true) by decide)] at H;simp only[Option.some.injEq,Prod.mk.injEq] at H;obtain⟨rfl,rfl⟩:=H;have hcz13_0:wr.cell? ⟨gb436,0,none⟩=some (.int .i64 Zb):=bc Wh 0;have hcz13_1:wr.cell? ⟨gb436,1,none⟩=some (.bool Zc):=bc Wh 1;have hcz13_2:wr.cell? ⟨gb436,2,none⟩=some (.slice Ze Za.length Zd):=bc Wh 2;have hfz13_0:=Yf Wh.out 0;have hfz13_1:=Yf Wh.out 1;have hfz13_2:=Yf Wh.out 2;go_wp2_with (first|((with_reducible refine gate_callee (f:=17) rfl ?_);refine gl (some 23) Try.func17 #[.agg #[.int .i64 Zb, .bool Zc, .slice Ze Za.length Zd], .slice A1 l1.length c1, .int .i64 Wj] ?_;(with_reducible refine(ebbtideref11_From.calls k1 Zb Zc _ _ Za _ _ l1 Wj t438 t441 false _ ?side1 ?side2 ?side3 ?side4 A9.out).mono ?_);(case side1=>exact kC (Yt Zk.out HB.out));(case side2=>exact Zm.out);(case side3=>exact kC (Yt HR1.out HB.out));(case side4=>exact HC1.out);rintro e w14 ⟨v439,v442,rfl,ho0,ho1,hb⟩;obtain⟨AA_,cc_,ee_⟩:=Kd.R_slice ho0;subst ee_;obtain⟨AB_,cb_,eb_⟩:=Kd.R_slice ho1;subst eb_;refine⟨_,rfl,?_⟩;have HO440:=Ya (Kd.R_lower ho0 (Yi bl));have HO443:=Ya (Kd.R_lower ho1 (Yi bl));replace Wh:=Ya (Yn (bk Wh) hb);replace HB:=Ya (Yk bl hb);(try clear hb);(try clear ho0);(try clear ho1)));go_ret2;exact⟨by first|rfl|(simp[errW_none,errW_some]<;>rfl)|(simp[*,errW_none,errW_some]<;>rfl),HB.out⟩
   subst c10;first|rw[Yx rfl] at H|rw[Yx trivial] at H
   have H':=Ya H;clear H;have hcz11_0:wr.cell? ⟨gb436,0,none⟩=some (.int .i64 Zb):=bc Wh 0;have hcz11_1:wr.cell? ⟨gb436,1,none⟩=some (.bool Zc):=bc Wh 1;have hcz11_2:wr.cell? ⟨gb436,2,none⟩=some (.slice Ze Za.length Zd):=bc Wh 2;have hfz11_0:=Yf Wh.out 0;have hfz11_1:=Yf Wh.out 1;have hfz11_2:=Yf Wh.out 2;go_wp2_with (first|((with_reducible refine gate_callee (f:=17) rfl ?_);refine gl (some 23) Try.func17 #[.agg #[.int .i64 Zb, .bool Zc, .slice Ze Za.length Zd], .slice A1 l1.length c1, .int .i64 Wj] ?_;(with_reducible refine(ebbtideref11_From.calls k1 Zb Zc _ _ Za _ _ l1 Wj t438 t441 true _ ?side1 ?side2 ?side3 ?side4 A9.out).mono ?_);(case side1=>exact kC (Yt Zk.out HB.out));(case side2=>exact Zm.out);(case side3=>exact kC (Yt HR1.out HB.out));(case side4=>exact HC1.out);rintro e w12 ⟨v439,v442,rfl,ho0,ho1,hb⟩;obtain⟨AA_,cc_,ee_⟩:=Kd.R_slice ho0;subst ee_;obtain⟨AB_,cb_,eb_⟩:=Kd.R_slice ho1;subst eb_;refine⟨_,rfl,?_⟩;have HO440:=Ya (Kd.R_lower ho0 (Yi bl));have HO443:=Ya (Kd.R_lower ho1 (Yi bl));replace Wh:=Ya (Yn (bk Wh) hb);replace HB:=Ya (Yk bl hb);(try clear hb);(try clear ho0);(try clear ho1)));go_roundg k1
   case measure=>have:=HK1.out;omega
   case rel=>exact⟨(wrap64 (Wj+1)),(by first|rfl|(simp;done)|(simp[*];done)),H',⟨by have:=HK1.out;omega⟩,⟨Wh.out⟩,⟨HB.out⟩⟩
end P
namespace P
attribute [local go_sem] max2_int min2_int max_two min_two max_three min_three max_four min_four
def static_Balance.l0:Nat→List Int→List Int→List (S50)→Int→Int→Option (List Int × Int)
 |0,_,_,_,_,_=>none
 |k+1,x1,x7,x20,x21,x22=>if x22<x21 then(if 0≤x22 then(if x22<(x20.length:Int) then(if 0≤((rd_T50 x20 x22).f0) then(if ((rd_T50 x20 x22).f0)<(x7.length:Int) then(if x22<(x1.length:Int) then((some (x7.set (((rd_T50 x20 x22).f0):Int).toNat (wrap64 ((rd x7 ((rd_T50 x20 x22).f0))+(rd x1 x22))):List Int)).bind fun y403=>(if 0≤((rd_T50 x20 x22).f1) then(if ((rd_T50 x20 x22).f1)<(x7.length:Int) then(static_Balance.l0 k x1 (y403.set (((rd_T50 x20 x22).f1):Int).toNat (wrap64 ((rd y403 ((rd_T50 x20 x22).f1)) - (rd x1 x22)))) x20 x21 (wrap64 (x22+1))) else(none)) else(none))) else(none)) else(none)) else(none)) else(none)) else(none)) else(some (x7,0))
def static_Balance.f (k:Nat) (Zb:Int) (Zc:Bool) (Za:List (S50)) (l1:List Int):Option (List Int × Int):=(static_Asked.f k Zb Zc Za l1).bind fun t395=>(if t395=0 then(if 0≤Zb then(if (Zb:Int).toNat≤35184372088832 then(static_Balance.l0 k l1 (List.replicate (Zb:Int).toNat 0) Za (Za.length:Int) 0) else(none)) else(none)) else(some (([]:List Int),t395)))
def static_Balance.T8:Bool × List (List Nat × List Nat):=(true,[([],[]),([],[]),([1],[1]),([0,2],[0,2]),([3],[3]),([],[]),([],[]),([5,6],[5,6]),([7],[7]),([4,8],[4,8]),([0,2,0,1,2,3,4,5,6,7,8,9],[0,2]),([10,9,0,1,2,3,4,5,6,7,8,9],[9,10])])
def static_Balance.B8:List Nat:=[0,0,2,7,15,0,0,96,224,511,1023,2047]
theorem static_Balance.tab8:rtab .any (opsOf Try.f73 8)=static_Balance.T8:=by kernel_rfl
theorem static_Balance.bits8:waitsOk static_Balance.T8.2 static_Balance.B8=true:=by kernel_rfl
def static_Balance.T9:Bool × List (List Nat × List Nat):=(true,[([],[]),([],[]),([1],[1]),([0,2],[0,2]),([3],[3]),([],[]),([],[]),([5,6],[5,6]),([7],[7]),([4,8],[4,8]),([0,2,0,1,2,3,4,5,6,7,8,9],[0,2]),([10,9,0,1,2,3,4,5,6,7,8,9],[9,10])])
def static_Balance.B9:List Nat:=[0,0,2,7,15,0,0,96,224,511,1023,2047]
theorem static_Balance.tab9:rtab .any (opsOf Try.f73 9)=static_Balance.T9:=by kernel_rfl
theorem static_Balance.bits9:waitsOk static_Balance.T9.2 static_Balance.B9=true:=by kernel_rfl
set_option maxHeartbeats 8000000 in
set_option maxRecDepth 100000 in
theorem static_Balance.calls (k:Nat) (Zb:Int) (Zc:Bool) (Ze:Option Addr) (Zd:Nat) (Za:List (S50)) (A1:Option Addr) (c1:Nat) (l1:List Int) (r1:List Int) (r2:Int) (w:World) (Zo:Kd.C k50 w Ze Za.length Za) (Zp:Za.length≤Zd) (hr1:Kd.C (Kd.int .i64) w A1 l1.length l1) (hc1:l1.length≤c1) (h:static_Balance.f k Zb Zc Za l1=some (r1,r2)):
  Calls Try.prog 73 #[.agg #[.int .i64 Zb, .bool Zc, .slice Ze Za.length Zd], .slice A1 l1.length c1] w fun e w'=> ∃ v0_:Value,e= .returned (.tuple #[v0_, .int .i64 r2])∧Kd.R (Kd.int .i64) 3 w' w.heap.size (fun _=>True) v0_ r1∧Below w.heap.size w w':=by
 have hu24:=Try.underlying24;have hu50:=Try.underlying50;have Zk:=Ya Zo;have Zm:=Ya Zp;clear Zo Zp;have HR1:=Ya hr1;have HC1:=Ya hc1;clear hr1 hc1;have HB:=Ya (Yo w.heap.size w);have H:=h;unfold static_Balance.f at H;clear h;replace H:=Option.bind_eq_some_iff.mp H;obtain⟨t395,A30,H⟩:=H;try dsimp only at H
 have A3:=Ya A30;clear A30;by_cases c4:t395=0
 rotate_left
 ·rw[Yy c4] at H
  have c4b0:(t395 == 0)=false:=beq_eq_false_iff_ne.mpr c4;have c4b1:(t395 != 0)=true:=bne_iff_ne.mpr c4;simp only[Option.some.injEq,Prod.mk.injEq] at H;obtain⟨rfl,rfl⟩:=H;go_enter Try.func73,Try.ntmps73;go_wp2_with (first|(refine bx 2 24 #[.int .i64 Zb, .bool Zc, .slice Ze Za.length Zd] ?_;intro Jb hg w34 Zf hb;have Xq:=Ya (Zf);have GW394:=Ya (by rw[hg];exact(Yi HB.out):w.heap.size≤Jb);have GE394:=Ya (by rw[hg];exact(Yi HB.out):w.heap.size≤Jb);replace HB:=Ya (Yk HB.out hb);clear hb Zf hg;have hcz35_0:w34.cell? ⟨Jb,0,none⟩=some (.int .i64 Zb):=bc Xq 0;have hcz35_1:w34.cell? ⟨Jb,1,none⟩=some (.bool Zc):=bc Xq 1;have hcz35_2:w34.cell? ⟨Jb,2,none⟩=some (.slice Ze Za.length Zd):=bc Xq 2;have hfz35_0:=Yf Xq.out 0;have hfz35_1:=Yf Xq.out 1;have hfz35_2:=Yf Xq.out 2)|((with_reducible refine gate_callee (f:=90) rfl ?_);refine gl (some 12) Try.func90 #[.agg #[.int .i64 Zb, .bool Zc, .slice Ze Za.length Zd], .slice A1 l1.length c1] ?_;(with_reducible refine(static_Asked.calls k Zb Zc _ _ Za _ _ l1 t395 _ ?side1 ?side2 ?side3 ?side4 A3.out).mono ?_);(case side1=>exact kC (Yt Zk.out HB.out));(case side2=>exact Zm.out);(case side3=>exact kC (Yt HR1.out HB.out));(case side4=>exact HC1.out);rintro e w36 ⟨rfl,hb⟩;refine⟨_,rfl,?_⟩;replace Xq:=Ya (Yn Xq.out hb);replace HB:=Ya (Yk HB.out hb);(try clear hb)));go_ret2;exact⟨_,by first|rfl|(simp[errW_none,errW_some]<;>rfl)|(simp[*,errW_none,errW_some]<;>rfl),by first|exact Kd.R_nil _ _ _ _ _|exact Kd.N_nil _ _ _ _ _|exact Kd.V_nil _ _ _ _ _|exact Kd.Q_nil _ _ _ _ _|exact Kd.S_nil _ _ _ _ _,HB.out⟩
 rw[Yx c4] at H;have c4b0:(t395 == 0)=true:=beq_iff_eq.mpr c4;have c4b1:(t395 != 0)=false:=bne_eq_false_iff_eq.mpr c4;clear c4;by_cases c5:0≤Zb
 rotate_left
 ·rw[Yy c5] at H
  exact absurd H (by simp)
 rw[Yx c5] at H;have c5b0:=eq_true c5;have c5b1:decide (0≤Zb)=true:=Yv c5;clear c5;by_cases c6:(Zb:Int).toNat≤35184372088832
 rotate_left
 ·rw[Yy c6] at H
  exact absurd H (by simp)
 rw[Yx c6] at H;have c6b0:=eq_true c6;have c6b1:decide ((Zb:Int).toNat≤35184372088832)=true:=Yv c6;clear c6;obtain⟨y396,hy396⟩: ∃ y_:List Int,y_=(List.replicate (Zb:Int).toNat 0):=⟨_,rfl⟩;rw[← hy396] at H;have Ny396:=Ya hy396;clear hy396;have H':=Ya H;clear H;go_enter Try.func73,Try.ntmps73;go_wp2_with (first|(refine bx 2 24 #[.int .i64 Zb, .bool Zc, .slice Ze Za.length Zd] ?_;intro Jb hg w7 Zf hb;have Xq:=Ya (Zf);have GW394:=Ya (by rw[hg];exact(Yi HB.out):w.heap.size≤Jb);have GE394:=Ya (by rw[hg];exact(Yi HB.out):w.heap.size≤Jb);replace HB:=Ya (Yk HB.out hb);clear hb Zf hg;have Jj:w7.cell? ⟨Jb,0,none⟩=some (.int .i64 Zb):=bc Xq 0;have Jk:w7.cell? ⟨Jb,1,none⟩=some (.bool Zc):=bc Xq 1;have Jl:w7.cell? ⟨Jb,2,none⟩=some (.slice Ze Za.length Zd):=bc Xq 2;have Jm:=Yf Xq.out 0;have Jn:=Yf Xq.out 1;have Jo:=Yf Xq.out 2)|((with_reducible refine gate_callee (f:=90) rfl ?_);refine gl (some 12) Try.func90 #[.agg #[.int .i64 Zb, .bool Zc, .slice Ze Za.length Zd], .slice A1 l1.length c1] ?_;(with_reducible refine(static_Asked.calls k Zb Zc _ _ Za _ _ l1 t395 _ ?side1 ?side2 ?side3 ?side4 A3.out).mono ?_);(case side1=>exact kC (Yt Zk.out HB.out));(case side2=>exact Zm.out);(case side3=>exact kC (Yt HR1.out HB.out));(case side4=>exact HC1.out);rintro e w9 ⟨rfl,hb⟩;refine⟨_,rfl,?_⟩;replace Xq:=Ya (Yn Xq.out hb);replace HB:=Ya (Yk HB.out hb);(try clear hb);have Wz:w9.cell? ⟨Jb,0,none⟩=some (.int .i64 Zb):=bc Xq 0;have Va:w9.cell? ⟨Jb,1,none⟩=some (.bool Zc):=bc Xq 1;have Vb:w9.cell? ⟨Jb,2,none⟩=some (.slice Ze Za.length Zd):=bc Xq 2;have Vc:=Yf Xq.out 0;have Vd:=Yf Xq.out 1;have Ve:=Yf Xq.out 2)|((with_reducible refine gate_dst (N:=18) rfl ?_);refine Kd.R_make (Kd.int .i64) _ 3 rfl (N:=18) rfl 31 _ _ rfl Zb rfl rfl Try.underlying31 (.int .i64 0) 8 info3 rfl (by decide) (by omega) 0 (ok:=fun _=>True) (okp:=fun _=>True) rfl (fun _ hk=>hk) trivial (Yu (by first|(with_reducible assumption)|assumption)) (Nat.le_trans (Nat.mul_le_mul_right _ (Yu (by first|(with_reducible assumption)|assumption):Zb.toNat≤35184372088832)) (by omega)) (Yo _ _) (Nat.le_refl _) ?_;intro v397 w11 ho12 hb hg_ hnew_;clear hg_ hnew_;(first|rw[← Ny396.out] at ho12|(simp only[Int.reduceToNat] at ho12;rw[← Ny396.out] at ho12));have HO398:=Ya (Kd.R_lower ho12 (Yi HB.out));replace Xq:=Ya (Yn Xq.out hb);replace HB:=Ya (Yk HB.out hb);clear hb ho12;have hcz13_0:w11.cell? ⟨Jb,0,none⟩=some (.int .i64 Zb):=bc Xq 0;have hcz13_1:w11.cell? ⟨Jb,1,none⟩=some (.bool Zc):=bc Xq 1;have hcz13_2:w11.cell? ⟨Jb,2,none⟩=some (.slice Ze Za.length Zd):=bc Xq 2;have hfz13_0:=Yf Xq.out 0;have hfz13_1:=Yf Xq.out 1;have hfz13_2:=Yf Xq.out 2));go_loopg [22] k (fun kq v22 w'=> ∃ (Wj:List Int) (Zn:Int),v22= .int .i64 Zn∧Aside0 (static_Balance.l0 kq l1 Wj Za (Za.length:Int) Zn=some (r1,r2))∧Aside0 (kq≤k)∧Aside0 (Kd.R (Kd.int .i64) 3 w' w.heap.size (fun _=>True) v397 Wj)∧Aside0 (w'.heap[Jb]? =some (.cells #[.int .i64 Zb, .bool Zc,(.slice Ze Za.length Zd)] 24 (0,0)))∧Aside0 (Below w.heap.size w w'))
 case atStart=>exact⟨(y396),(0),(by first|rfl|(simp;done)|(simp[*];done)),H',⟨Nat.le_refl _⟩,⟨HO398.out⟩,⟨Xq.out⟩,⟨HB.out⟩⟩
 case round=>
  clear H';try clear c1
  try clear c4
  try clear c4b0
  try clear c4b1
  try clear c5
  try clear c5b0
  try clear c5b1
  try clear c6
  try clear c6b0
  try clear c6b1
  try clear Wz
  try clear Va
  try clear Vb
  try clear hcz13_0
  try clear hcz13_1
  try clear hcz13_2
  try clear Jj
  try clear Jk
  try clear Jl
  try clear Vc
  try clear Vd
  try clear Ve
  try clear hfz13_0
  try clear hfz13_1
  try clear hfz13_2
  try clear Jm
  try clear Jn
  try clear Jo
  obtain⟨Wj,Zn,rfl,HA,HK1,HO_7,Xq,HB⟩:=hrel;cases gk with
  |zero=>exact absurd HA.out (by simp[static_Balance.l0])
  |succ k1=>
   have H:=HA.out;clear HA;simp only[static_Balance.l0] at H;by_cases c14:Zn<(Za.length:Int)
   rotate_left
   ·rw[Yy c14] at H
    have c14b0:decide (Zn<(Za.length:Int))=false:=Yw c14;clear c14;simp only[Option.some.injEq,Prod.mk.injEq] at H;obtain⟨rfl,rfl⟩:=H;go_wp2;go_ret2;exact⟨_,by first|rfl|(simp[errW_none,errW_some]<;>rfl)|(simp[*,errW_none,errW_some]<;>rfl),by(with_reducible repeat(first|apply Yr|apply Yq|apply Yp));exact HO_7.out,HB.out⟩
   rw[Yx c14] at H;have c14b0:decide (Zn<(Za.length:Int))=true:=Yv c14;clear c14;by_cases c15:0≤Zn
   rotate_left
   ·rw[Yy c15] at H
    exact absurd H (by simp)
   rw[Yx c15] at H;have c15b0:decide (0≤Zn)=true:=Yv c15;clear c15;by_cases c16:Zn<(Za.length:Int)
   rotate_left
   ·rw[Yy c16] at H
    exact absurd H (by simp)
   rw[Yx c16] at H;have c16b0:decide (Zn<(Za.length:Int))=true:=Yv c16;clear c16;by_cases c17:0≤((rd_T50 Za Zn).f0)
   rotate_left
   ·rw[Yy c17] at H
    exact absurd H (by simp)
   rw[Yx c17] at H;have c17b0:decide (0≤((rd_T50 Za Zn).f0))=true:=Yv c17;clear c17;by_cases c18:((rd_T50 Za Zn).f0)<(Wj.length:Int)
   rotate_left
   ·rw[Yy c18] at H
    exact absurd H (by simp)
   rw[Yx c18] at H;have c18b0:decide (((rd_T50 Za Zn).f0)<(Wj.length:Int))=true:=Yv c18;clear c18;by_cases c19:Zn<(l1.length:Int)
   rotate_left
   ·rw[Yy c19] at H
    exact absurd H (by simp)
   rw[Yx c19] at H;have c19b0:decide (Zn<(l1.length:Int))=true:=Yv c19;clear c19;obtain⟨y403,hy403⟩: ∃ y_:List Int,y_=(Wj.set (((rd_T50 Za Zn).f0):Int).toNat (wrap64 ((rd Wj ((rd_T50 Za Zn).f0))+(rd l1 Zn)))):=⟨_,rfl⟩;rw[Option.bind_some, ← hy403] at H;have Ny403:=Ya hy403;clear hy403;by_cases c21:0≤((rd_T50 Za Zn).f1)
   rotate_left
   ·rw[Yy c21] at H
    exact absurd H (by simp)
   rw[Yx c21] at H;have c21b0:decide (0≤((rd_T50 Za Zn).f1))=true:=Yv c21;clear c21;by_cases c22:((rd_T50 Za Zn).f1)<(Wj.length:Int)
   rotate_left
   ·rw[Yy c22] at H
    exact absurd H (by simp)
   rw[Yx c22] at H;have c22b0:decide (((rd_T50 Za Zn).f1)<(Wj.length:Int))=true:=Yv c22;clear c22;obtain⟨y406,hy406⟩: ∃ y_:List Int,y_=(y403.set (((rd_T50 Za Zn).f1):Int).toNat (wrap64 ((rd y403 ((rd_T50 Za Zn).f1)) - (rd l1 Zn)))):=⟨_,rfl⟩;rw[← hy406] at H;have Ny406:=Ya hy406;clear hy406;have H':=Ya H;clear H;have p399:0≤(Zn:Int):=od;have q399:Zn<(Za.length:Int):=od;obtain⟨ad399,e399,hx399_0,hx399_1,hx399_2,hx399_3⟩:=at_T50 Zk.out Zn p399 q399;cases e399;replace hx399_0:=hc HB hx399_0;replace hx399_1:=hc HB hx399_1;replace hx399_2:=hc HB hx399_2;replace hx399_3:=hc HB hx399_3;replace p399:=eq_true p399;replace q399:=eq_true q399;try go_wp2_with (first|(refine bx 9 50 #[.int .i64 0, .int .i64 0, .int .i64 0, .int .i64 0] ?_;intro Wi hg w24 Zf hb;replace HO_7:=Ya (Ys HO_7.out hb);have Vo:=Ya (Zf);have GW400:=Ya (by rw[hg];exact(Yi HB.out):w.heap.size≤Wi);have GE400:=Ya (by rw[hg];exact(Yi HB.out):w.heap.size≤Wi);replace HB:=Ya (Yk HB.out hb);have NB394_400:=Ya (by rw[hg];exact Nat.ne_of_lt (blk_lt Xq.out):Jb≠Wi);have NB400_394:=Ya (by rw[hg];exact Nat.ne_of_gt (blk_lt Xq.out):Wi≠Jb);replace Xq:=Ya (Yn Xq.out hb);clear hb Zf hg;have hnb25:=NB400_394.out;have hnc25:=NB394_400.out;have hcz26_0:w24.cell? ⟨Wi,0,none⟩=some (.int .i64 0):=bc Vo 0;have hcz26_1:w24.cell? ⟨Wi,1,none⟩=some (.int .i64 0):=bc Vo 1;have hcz26_2:w24.cell? ⟨Wi,2,none⟩=some (.int .i64 0):=bc Vo 2;have hcz26_3:w24.cell? ⟨Wi,3,none⟩=some (.int .i64 0):=bc Vo 3;have hfz26_0:=Yf Vo.out 0;have hfz26_1:=Yf Vo.out 1;have hfz26_2:=Yf Vo.out 2;have hfz26_3:=Yf Vo.out 3))
   have n0_:Aside0 (Kd.R (Kd.int .i64) 3 ((((w24.setCell ⟨Wi,0,none⟩ (.int .i64 ((rd_T50 Za Zn).f0))).setCell ⟨Wi,1,none⟩ (.int .i64 ((rd_T50 Za Zn).f1))).setCell ⟨Wi,2,none⟩ (.int .i64 ((rd_T50 Za Zn).f2))).setCell ⟨Wi,3,none⟩ (.int .i64 ((rd_T50 Za Zn).f3))) w.heap.size (fun _=>True) v397 Wj):=⟨by(with_reducible repeat(first|apply Yr|apply Yq|apply Yp));exact Kd.R_mono (Kd.R_far (p:=⟨Wi,3,none⟩) (Kd.R_far (p:=⟨Wi,2,none⟩) (Kd.R_far (p:=⟨Wi,1,none⟩) (Kd.R_far (p:=⟨Wi,0,none⟩) (Kd.R_types HO_7.out Vo.out (by decide)) (fun _ hk=>hk.2) (.int .i64 ((rd_T50 Za Zn).f0))) (fun _ hk=>hk.2) (.int .i64 ((rd_T50 Za Zn).f1))) (fun _ hk=>hk.2) (.int .i64 ((rd_T50 Za Zn).f2))) (fun _ hk=>hk.2) (.int .i64 ((rd_T50 Za Zn).f3))) (fun _ hk=>trivial)⟩;have n1_:Aside0 (((((w24.setCell ⟨Wi,0,none⟩ (.int .i64 ((rd_T50 Za Zn).f0))).setCell ⟨Wi,1,none⟩ (.int .i64 ((rd_T50 Za Zn).f1))).setCell ⟨Wi,2,none⟩ (.int .i64 ((rd_T50 Za Zn).f2))).setCell ⟨Wi,3,none⟩ (.int .i64 ((rd_T50 Za Zn).f3))).heap[Jb]? =some (.cells #[.int .i64 Zb, .bool Zc, .slice (some ad399) Za.length Zd] 24 (0,0))):=⟨by(with_reducible repeat(first|refine Yl ?_ _|refine Ym ?_|refine Yj ?_ _));refine blk_far ?_ NB394_400.out _;(with_reducible repeat(first|refine Yl ?_ _|refine Ym ?_|refine Yj ?_ _));refine blk_far ?_ NB394_400.out _;(with_reducible repeat(first|refine Yl ?_ _|refine Ym ?_|refine Yj ?_ _));refine blk_far ?_ NB394_400.out _;(with_reducible repeat(first|refine Yl ?_ _|refine Ym ?_|refine Yj ?_ _));refine blk_far ?_ NB394_400.out _;(with_reducible repeat(first|refine Yl ?_ _|refine Ym ?_|refine Yj ?_ _));exact Xq.out⟩;have n2_:Aside0 (((((w24.setCell ⟨Wi,0,none⟩ (.int .i64 ((rd_T50 Za Zn).f0))).setCell ⟨Wi,1,none⟩ (.int .i64 ((rd_T50 Za Zn).f1))).setCell ⟨Wi,2,none⟩ (.int .i64 ((rd_T50 Za Zn).f2))).setCell ⟨Wi,3,none⟩ (.int .i64 ((rd_T50 Za Zn).f3))).heap[Wi]? =some (.cells #[.int .i64 ((rd_T50 Za Zn).f0), .int .i64 ((rd_T50 Za Zn).f1), .int .i64 ((rd_T50 Za Zn).f2), .int .i64 ((rd_T50 Za Zn).f3)] 50 (0,0))):=⟨by(with_reducible repeat(first|refine Yl ?_ _|refine Ym ?_|refine Yj ?_ _));refine YA (cs:= #[.int .i64 ((rd_T50 Za Zn).f0), .int .i64 ((rd_T50 Za Zn).f1), .int .i64 ((rd_T50 Za Zn).f2), .int .i64 0]) ?_ 3 _ rfl;(with_reducible repeat(first|refine Yl ?_ _|refine Ym ?_|refine Yj ?_ _));refine YA (cs:= #[.int .i64 ((rd_T50 Za Zn).f0), .int .i64 ((rd_T50 Za Zn).f1), .int .i64 0, .int .i64 0]) ?_ 2 _ rfl;(with_reducible repeat(first|refine Yl ?_ _|refine Ym ?_|refine Yj ?_ _));refine YA (cs:= #[.int .i64 ((rd_T50 Za Zn).f0), .int .i64 0, .int .i64 0, .int .i64 0]) ?_ 1 _ rfl;(with_reducible repeat(first|refine Yl ?_ _|refine Ym ?_|refine Yj ?_ _));refine YA (cs:= #[.int .i64 0, .int .i64 0, .int .i64 0, .int .i64 0]) ?_ 0 _ rfl;(with_reducible repeat(first|refine Yl ?_ _|refine Ym ?_|refine Yj ?_ _));exact Vo.out⟩;have n3_:Aside0 (Below w.heap.size w ((((w24.setCell ⟨Wi,0,none⟩ (.int .i64 ((rd_T50 Za Zn).f0))).setCell ⟨Wi,1,none⟩ (.int .i64 ((rd_T50 Za Zn).f1))).setCell ⟨Wi,2,none⟩ (.int .i64 ((rd_T50 Za Zn).f2))).setCell ⟨Wi,3,none⟩ (.int .i64 ((rd_T50 Za Zn).f3)))):=⟨bl⟩
   (try clear HO_7)
   (try clear Xq)
   (try clear Vo)
   (try clear HB)
   generalize ((((w24.setCell ⟨Wi,0,none⟩ (.int .i64 ((rd_T50 Za Zn).f0))).setCell ⟨Wi,1,none⟩ (.int .i64 ((rd_T50 Za Zn).f1))).setCell ⟨Wi,2,none⟩ (.int .i64 ((rd_T50 Za Zn).f2))).setCell ⟨Wi,3,none⟩ (.int .i64 ((rd_T50 Za Zn).f3)))=w27 at n0_ n1_ n2_ n3_ ⊢;have HO_7:=n0_;have Xq:=n1_;have Vo:=n2_;have HB:=n3_;clear n0_ n1_ n2_ n3_;replace HO_7:=Ya (Yp HO_7.out);replace Xq:=Ya (Ym Xq.out);replace Vo:=Ya (Ym Vo.out);replace HB:=Ya (Yg HB.out);obtain⟨Ao29,co29,eo29⟩:=Kd.R_slice HO_7.out
   (first|subst eo29|(injection eo29 with f1_ f2_ f3_;have f4_:=f1_.symm;have f5_:=f3_.symm;clear f1_ f2_ f3_;subst f4_;subst f5_))
   have p401:0≤(((rd_T50 Za Zn).f0):Int):=od;have q401:((rd_T50 Za Zn).f0)<(Wj.length:Int):=od;obtain⟨ad401,e401,hx401_0⟩:=Kd.at_int (Kd.R_reads' HO_7.out).2.2 ((rd_T50 Za Zn).f0) p401 q401;cases e401;replace p401:=eq_true p401;replace q401:=eq_true q401;have p402:0≤(Zn:Int):=od;have q402:Zn<(l1.length:Int):=od;obtain⟨ad402,e402,hx402_0⟩:=Kd.at_int HR1.out Zn p402 q402;have hw402_0:=hx402_0;cases e402;replace hx402_0:=hc HB hx402_0;replace p402:=eq_true p402;replace q402:=eq_true q402;have p20:0≤(((rd_T50 Za Zn).f0):Int):=od;have q20:(((rd_T50 Za Zn).f0):Int)<((Wj.length:Int):Int):=od;obtain⟨go20,co20,eo20,gb20,gl20,cl20,HG20⟩:=Kd.R_form HO_7.out (by omega)
   (first|cases eo20|(injection eo20 with ea_ en_ ec_;(first|subst ea_|(injection ea_ with ea_;subst ea_));subst ec_;clear en_))
   have GB20:=Ya gb20;have GG20:=Ya HG20;clear gb20 gl20 HG20
   (first|simp only[add_plain] at hx401_0|skip)
   obtain⟨hx20_0,hf20_0⟩:=Kd.R_celln 0 HO_7.out (((rd_T50 Za Zn).f0):Int) p20 q20;replace p20:=eq_true p20;replace q20:=eq_true q20;have HP30:=Kd.R_putn HO_7.out (((rd_T50 Za Zn).f0):Int) (wrap64 ((rd Wj ((rd_T50 Za Zn).f0))+(rd l1 Zn)));rw[← Ny403.out] at HP30;have HQ30:=Ya HP30;clear HP30;refine start_ (n:=12) (S:=fun w'=>w'.cell? ⟨Wi,0,none⟩=some (.int .i64 ((rd_T50 Za Zn).f0))∧w'.cell? ⟨Wi,1,none⟩=some (.int .i64 ((rd_T50 Za Zn).f1))∧w'.cell? ⟨Wi,2,none⟩=some (.int .i64 ((rd_T50 Za Zn).f2))∧w'.cell? ⟨Wi,3,none⟩=some (.int .i64 ((rd_T50 Za Zn).f3))∧w'.cell? ⟨go20,(((rd_T50 Za Zn).f0)).toNat,none⟩=some (.int .i64 (rd Wj ((rd_T50 Za Zn).f0)))∧w'.cell? (ad402.add (Zn).toNat)=some (.int .i64 (rd l1 Zn))) (ds:=[11]) #[false,false,false,false,false,false,false,false,false,false,false,false] (by kernel_rfl) rfl rfl ⟨(Yc Vo.out 0).trans rfl,(Yc Vo.out 1).trans rfl,(Yc Vo.out 2).trans rfl,(Yc Vo.out 3).trans rfl,hx401_0,((HB.out.cell (Yb w _ hw402_0)).trans hw402_0)⟩ (fun hHeld=> ?_);refine with_tabW static_Balance.tab8 static_Balance.bits8 (fun HT_ HW_=> ?_);generalize w27.drew=w28 at HO_7 Xq Vo HB GG20 HQ30 hf20_0 hx20_0 hx401_0 hx402_0 hHeld ⊢;refine pu 0 27 (bm 12 1) ?_;refine pu 1 28 (bm 12 3) ?_;refine pu 5 32 (bm 12 35) ?_;refine pu 6 33 (bm 12 99) ?_;refine pu 7 34 (bm 12 227) ?_;refine ta 2 29 (bm 12 231) hHeld ?_;refine pu 3 30 (bm 12 239) ?_;refine ta 4 31 (bm 12 255) hHeld ?_;refine ta 8 35 (bm 12 511) hHeld ?_;refine pu 9 36 (bm 12 1023) ?_;refine pu 10 37 (bm 12 2047) ?_;refine last_ (i:=11) (N:=none) #[true,true,true,true,true,true,true,true,true,true,true,true] rfl rfl (one_of HT_.out (by kernel_rfl)) (by decide) (fun K hK=> ?_);refine skip_ (w1:= ?_) (by rfl) rfl ?_ ?_
   rotate_left
   ·go_simp
    rfl
   refine hK.out _ _ ?_;clear hK K;refine done_ (done_of HT_.out (by kernel_rfl)) ?_;try go_wp2
   have n0_:Aside0 (Kd.R (Kd.int .i64) 3 (w28.setCell ⟨go20,(((rd_T50 Za Zn).f0):Int).toNat,none⟩ (.int .i64 (wrap64 ((rd Wj ((rd_T50 Za Zn).f0))+(rd l1 Zn))))) w.heap.size (fun _=>True) (.slice (some ⟨go20,0,none⟩) Wj.length co29) y403):=⟨HQ30.out⟩;have n1_:Aside0 ((w28.setCell ⟨go20,(((rd_T50 Za Zn).f0):Int).toNat,none⟩ (.int .i64 (wrap64 ((rd Wj ((rd_T50 Za Zn).f0))+(rd l1 Zn))))).heap[Jb]? =some (.cells #[.int .i64 Zb, .bool Zc, .slice (some ad399) Za.length Zd] 24 (0,0))):=⟨by(with_reducible repeat(first|refine Yl ?_ _|refine Ym ?_|refine Yj ?_ _));refine blk_far ?_ (by have h_:=Kd.R_ne HO_7.out Xq.out (by decide);intro e_;exact h_ (by rw[e_];rfl)) _;(with_reducible repeat(first|refine Yl ?_ _|refine Ym ?_|refine Yj ?_ _));exact Xq.out⟩;have n2_:Aside0 ((w28.setCell ⟨go20,(((rd_T50 Za Zn).f0):Int).toNat,none⟩ (.int .i64 (wrap64 ((rd Wj ((rd_T50 Za Zn).f0))+(rd l1 Zn))))).heap[Wi]? =some (.cells #[.int .i64 ((rd_T50 Za Zn).f0), .int .i64 ((rd_T50 Za Zn).f1), .int .i64 ((rd_T50 Za Zn).f2), .int .i64 ((rd_T50 Za Zn).f3)] 50 (0,0))):=⟨by(with_reducible repeat(first|refine Yl ?_ _|refine Ym ?_|refine Yj ?_ _));refine blk_far ?_ (by have h_:=Kd.R_ne HO_7.out Vo.out (by decide);intro e_;exact h_ (by rw[e_];rfl)) _;(with_reducible repeat(first|refine Yl ?_ _|refine Ym ?_|refine Yj ?_ _));exact Vo.out⟩;have n3_:Aside0 (Below w.heap.size w (w28.setCell ⟨go20,(((rd_T50 Za Zn).f0):Int).toNat,none⟩ (.int .i64 (wrap64 ((rd Wj ((rd_T50 Za Zn).f0))+(rd l1 Zn)))))):=⟨bl⟩
   (try clear HO_7)
   (try clear Xq)
   (try clear Vo)
   (try clear HB)
   generalize (w28.setCell ⟨go20,(((rd_T50 Za Zn).f0):Int).toNat,none⟩ (.int .i64 (wrap64 ((rd Wj ((rd_T50 Za Zn).f0))+(rd l1 Zn)))))=w31 at n0_ n1_ n2_ n3_ ⊢;have HO_7:=n0_;have Xq:=n1_;have Vo:=n2_;have HB:=n3_;clear n0_ n1_ n2_ n3_;replace HO_7:=Ya (Yp HO_7.out);replace Xq:=Ya (Ym Xq.out);replace Vo:=Ya (Ym Vo.out);replace HB:=Ya (Yg HB.out);have p404:0≤(((rd_T50 Za Zn).f1):Int):=od;have q404:((rd_T50 Za Zn).f1)<(y403.length:Int):=(by have h_:(((rd_T50 Za Zn).f1):Int)<((Wj.length:Int):Int):=od;first|(have e_:=(Kd.R_reads' HO_7.out).1;omega)|simpa only[Ny403.out,List.length_set] using h_);have ql404:((((rd_T50 Za Zn).f1):Int)<((Wj.length:Int):Int))=True:=eq_true (Yu (by first|(with_reducible assumption)|assumption));obtain⟨ad404,e404,hx404_0⟩:=Kd.at_int (Kd.R_reads' HO_7.out).2.2 ((rd_T50 Za Zn).f1) p404 q404;obtain rfl:(⟨go20,0,none⟩:Addr)=ad404:=(by injection e404)
   (first|simp only[add_plain] at hx404_0|simp only[add_at] at hx404_0|simp only[Addr.add,Nat.zero_add] at hx404_0|skip)
   replace p404:=eq_true p404;replace q404:=eq_true q404;have p405:0≤(Zn:Int):=od;have q405:Zn<(l1.length:Int):=od;obtain⟨ad405,e405,hx405_0⟩:=Kd.at_int HR1.out Zn p405 q405;have hw405_0:=hx405_0;obtain rfl:ad402=ad405:=(by injection e405);replace hx405_0:=hc HB hx405_0;replace p405:=eq_true p405;replace q405:=eq_true q405;have p23:0≤(((rd_T50 Za Zn).f1):Int):=od;have q23:(((rd_T50 Za Zn).f1):Int)<((Wj.length:Int):Int):=od;obtain⟨hx23_0,hf23_0⟩:=Kd.R_celln 0 HO_7.out (((rd_T50 Za Zn).f1):Int) p23 q23;replace p23:=eq_true p23;replace q23:=eq_true q23;have HP33:=Kd.R_putn HO_7.out (((rd_T50 Za Zn).f1):Int) (wrap64 ((rd y403 ((rd_T50 Za Zn).f1)) - (rd l1 Zn)));rw[← Ny406.out] at HP33;have HQ33:=Ya HP33;clear HP33;refine start_ (n:=12) (S:=fun w'=>w'.cell? ⟨Wi,0,none⟩=some (.int .i64 ((rd_T50 Za Zn).f0))∧w'.cell? ⟨Wi,1,none⟩=some (.int .i64 ((rd_T50 Za Zn).f1))∧w'.cell? ⟨Wi,2,none⟩=some (.int .i64 ((rd_T50 Za Zn).f2))∧w'.cell? ⟨Wi,3,none⟩=some (.int .i64 ((rd_T50 Za Zn).f3))∧w'.cell? ⟨go20,(((rd_T50 Za Zn).f1)).toNat,none⟩=some (.int .i64 (rd y403 ((rd_T50 Za Zn).f1)))∧w'.cell? (ad402.add (Zn).toNat)=some (.int .i64 (rd l1 Zn))) (ds:=[11]) #[false,false,false,false,false,false,false,false,false,false,false,false] (by kernel_rfl) rfl rfl ⟨(Yc Vo.out 0).trans rfl,(Yc Vo.out 1).trans rfl,(Yc Vo.out 2).trans rfl,(Yc Vo.out 3).trans rfl,hx404_0,((HB.out.cell (Yb w _ hw405_0)).trans hw405_0)⟩ (fun hHeld=> ?_);refine with_tabW static_Balance.tab9 static_Balance.bits9 (fun HT_ HW_=> ?_);generalize w31.drew=w32 at HO_7 Xq Vo HB HQ30 HQ33 hf23_0 hx23_0 hx404_0 hx405_0 hHeld ⊢;refine pu 0 38 (bm 12 1) ?_;refine pu 1 39 (bm 12 3) ?_;refine pu 5 43 (bm 12 35) ?_;refine pu 6 44 (bm 12 99) ?_;refine pu 7 45 (bm 12 227) ?_;refine ta 2 40 (bm 12 231) hHeld ?_;refine pu 3 41 (bm 12 239) ?_;refine ta 4 42 (bm 12 255) hHeld ?_;refine ta 8 46 (bm 12 511) hHeld ?_;refine pu 9 47 (bm 12 1023) ?_;refine pu 10 48 (bm 12 2047) ?_;refine last_ (i:=11) (N:=none) #[true,true,true,true,true,true,true,true,true,true,true,true] rfl rfl (one_of HT_.out (by kernel_rfl)) (by decide) (fun K hK=> ?_);refine skip_ (w1:= ?_) (by rfl) rfl ?_ ?_
   rotate_left
   ·go_simp
    rfl
   refine hK.out _ _ ?_;clear hK K;refine done_ (done_of HT_.out (by kernel_rfl)) ?_;try go_wp2
   go_roundg k1
   case measure=>have:=HK1.out;omega
   case rel=>exact⟨(y406),(wrap64 (Zn+1)),(by first|rfl|(simp;done)|(simp[*];done)),H',⟨by have:=HK1.out;omega⟩,⟨kR HQ33⟩,⟨by(with_reducible repeat(first|refine Yl ?_ _|refine Ym ?_|refine Yj ?_ _));refine blk_far ?_ (by have h_:=Kd.R_ne HO_7.out Xq.out (by decide);intro e_;exact h_ (by rw[e_];rfl)) _;(with_reducible repeat(first|refine Yl ?_ _|refine Ym ?_|refine Yj ?_ _));exact Xq.out⟩,⟨bl⟩⟩
end P
namespace P
attribute [local go_sem] max2_int min2_int max_two min_two max_three min_three max_four min_four
def static_Check.l0:Nat→Int→Int→List Int→List Int→Int→Int→Option (Int × Int)
 |0,_,_,_,_,_,_=>none
 |k+1,x1,x2,x10,x29,x30,x31=>if x31<x30 then(if 0≤x31 then(if x31<(x29.length:Int) then(if (rd x29 x31)=0 then(static_Check.l0 k x1 x2 x10 x29 x30 (wrap64 (x31+1))) else(if x31=x1 then(static_Check.l0 k x1 x2 x10 x29 x30 (wrap64 (x31+1))) else(if x31=x2 then(static_Check.l0 k x1 x2 x10 x29 x30 (wrap64 (x31+1))) else(some (0,71))))) else(none)) else(none)) else(if 0≤x1 then(if x1<(x10.length:Int) then(some (rd x10 x1,0)) else(none)) else(none))
def static_Check.f (k:Nat) (Zb:Int) (Zc:Bool) (Za:List (S50)) (a1:Int) (a2:Int) (l3:List Int):Option (Int × Int):=(static_Ends.f k Zb Zc Za a1 a2).bind fun t408=>(if t408=0 then((static_Balance.f k Zb Zc Za l3).bind fun bt409=>(if bt409.2=0 then(static_Check.l0 k a1 a2 bt409.1 bt409.1 (bt409.1.length:Int) 0) else(some (0,bt409.2)))) else(some (0,t408)))
set_option maxHeartbeats 8000000 in
set_option maxRecDepth 100000 in
theorem static_Check.calls (k:Nat) (Zb:Int) (Zc:Bool) (Ze:Option Addr) (Zd:Nat) (Za:List (S50)) (a1:Int) (a2:Int) (A3:Option Addr) (c3:Nat) (l3:List Int) (r1:Int) (r2:Int) (w:World) (Zo:Kd.C k50 w Ze Za.length Za) (Zp:Za.length≤Zd) (hr3:Kd.C (Kd.int .i64) w A3 l3.length l3) (hc3:l3.length≤c3) (h:static_Check.f k Zb Zc Za a1 a2 l3=some (r1,r2)):
  Calls Try.prog 46 #[.agg #[.int .i64 Zb, .bool Zc, .slice Ze Za.length Zd], .int .i64 a1, .int .i64 a2, .slice A3 l3.length c3] w fun e w'=>e= .returned (.tuple #[.int .i64 r1, .int .i64 r2])∧Below w.heap.size w w':=by
 have hu24:=Try.underlying24;have Zk:=Ya Zo;have Zm:=Ya Zp;clear Zo Zp;have HR3:=Ya hr3;have HC3:=Ya hc3;clear hr3 hc3;have HB:=Ya (Yo w.heap.size w);have H:=h;unfold static_Check.f at H;clear h;replace H:=Option.bind_eq_some_iff.mp H;obtain⟨t408,A50,H⟩:=H;try dsimp only at H
 have A5:=Ya A50;clear A50;by_cases c6:t408=0
 rotate_left
 ·rw[Yy c6] at H
  have c6b0:(t408 == 0)=false:=beq_eq_false_iff_ne.mpr c6;have c6b1:(t408 != 0)=true:=bne_iff_ne.mpr c6;simp only[Option.some.injEq,Prod.mk.injEq] at H;obtain⟨rfl,rfl⟩:=H;go_enter Try.func46,Try.ntmps46;go_wp2_with (first|(refine bx 4 24 #[.int .i64 Zb, .bool Zc, .slice Ze Za.length Zd] ?_;intro Ul hg w28 Zf hb;have Wa:=Ya (Zf);have GW407:=Ya (by rw[hg];exact(Yi HB.out):w.heap.size≤Ul);have GE407:=Ya (by rw[hg];exact(Yi HB.out):w.heap.size≤Ul);replace HB:=Ya (Yk HB.out hb);clear hb Zf hg;have hcz29_0:w28.cell? ⟨Ul,0,none⟩=some (.int .i64 Zb):=bc Wa 0;have hcz29_1:w28.cell? ⟨Ul,1,none⟩=some (.bool Zc):=bc Wa 1;have hcz29_2:w28.cell? ⟨Ul,2,none⟩=some (.slice Ze Za.length Zd):=bc Wa 2;have hfz29_0:=Yf Wa.out 0;have hfz29_1:=Yf Wa.out 1;have hfz29_2:=Yf Wa.out 2)|((with_reducible refine gate_callee (f:=65) rfl ?_);refine gl (some 16) Try.func65 #[.agg #[.int .i64 Zb, .bool Zc, .slice Ze Za.length Zd], .int .i64 a1, .int .i64 a2] ?_;(with_reducible refine(static_Ends.calls k Zb Zc _ _ Za a1 a2 t408 _ ?side1 ?side2 A5.out).mono ?_);(case side1=>exact kC (Yt Zk.out HB.out));(case side2=>exact Zm.out);rintro e w30 ⟨rfl,hb⟩;refine⟨_,rfl,?_⟩;replace Wa:=Ya (Yn Wa.out hb);replace HB:=Ya (Yk HB.out hb);(try clear hb)));go_ret2;exact⟨by first|rfl|(simp[errW_none,errW_some]<;>rfl)|(simp[*,errW_none,errW_some]<;>rfl),HB.out⟩
 rw[Yx c6] at H;have c6b0:(t408 == 0)=true:=beq_iff_eq.mpr c6;have c6b1:(t408 != 0)=false:=bne_eq_false_iff_eq.mpr c6;clear c6;replace H:=Option.bind_eq_some_iff.mp H;obtain⟨⟨t409,t412⟩,A70,H⟩:=H;try dsimp only at H
 have A7:=Ya A70;clear A70;by_cases c8:t412=0
 rotate_left
 ·rw[Yy c8] at H
  have c8b0:(t412 == 0)=false:=beq_eq_false_iff_ne.mpr c8;have c8b1:(t412 != 0)=true:=bne_iff_ne.mpr c8;simp only[Option.some.injEq,Prod.mk.injEq] at H;obtain⟨rfl,rfl⟩:=H;go_enter Try.func46,Try.ntmps46;go_wp2_with (first|(refine bx 4 24 #[.int .i64 Zb, .bool Zc, .slice Ze Za.length Zd] ?_;intro Ul hg w23 Zf hb;have Wa:=Ya (Zf);have GW407:=Ya (by rw[hg];exact(Yi HB.out):w.heap.size≤Ul);have GE407:=Ya (by rw[hg];exact(Yi HB.out):w.heap.size≤Ul);replace HB:=Ya (Yk HB.out hb);clear hb Zf hg;have hcz24_0:w23.cell? ⟨Ul,0,none⟩=some (.int .i64 Zb):=bc Wa 0;have hcz24_1:w23.cell? ⟨Ul,1,none⟩=some (.bool Zc):=bc Wa 1;have hcz24_2:w23.cell? ⟨Ul,2,none⟩=some (.slice Ze Za.length Zd):=bc Wa 2;have hfz24_0:=Yf Wa.out 0;have hfz24_1:=Yf Wa.out 1;have hfz24_2:=Yf Wa.out 2)|((with_reducible refine gate_callee (f:=65) rfl ?_);refine gl (some 16) Try.func65 #[.agg #[.int .i64 Zb, .bool Zc, .slice Ze Za.length Zd], .int .i64 a1, .int .i64 a2] ?_;(with_reducible refine(static_Ends.calls k Zb Zc _ _ Za a1 a2 t408 _ ?side1 ?side2 A5.out).mono ?_);(case side1=>exact kC (Yt Zk.out HB.out));(case side2=>exact Zm.out);rintro e w25 ⟨rfl,hb⟩;refine⟨_,rfl,?_⟩;replace Wa:=Ya (Yn Wa.out hb);replace HB:=Ya (Yk HB.out hb);(try clear hb);have hcz26_0:w25.cell? ⟨Ul,0,none⟩=some (.int .i64 Zb):=bc Wa 0;have hcz26_1:w25.cell? ⟨Ul,1,none⟩=some (.bool Zc):=bc Wa 1;have hcz26_2:w25.cell? ⟨Ul,2,none⟩=some (.slice Ze Za.length Zd):=bc Wa 2;have hfz26_0:=Yf Wa.out 0;have hfz26_1:=Yf Wa.out 1;have hfz26_2:=Yf Wa.out 2)|((with_reducible refine gate_callee (f:=73) rfl ?_);refine gl (some 23) Try.func73 #[.agg #[.int .i64 Zb, .bool Zc, .slice Ze Za.length Zd], .slice A3 l3.length c3] ?_;(with_reducible refine(static_Balance.calls k Zb Zc _ _ Za _ _ l3 t409 t412 _ ?side1 ?side2 ?side3 ?side4 A7.out).mono ?_);(case side1=>exact kC (Yt Zk.out HB.out));(case side2=>exact Zm.out);(case side3=>exact kC (Yt HR3.out HB.out));(case side4=>exact HC3.out);rintro e w27 ⟨v410,rfl,ho0,hb⟩;refine⟨_,rfl,?_⟩;have HO411:=Ya (Kd.R_lower ho0 (Yi HB.out));replace Wa:=Ya (Yn Wa.out hb);replace HB:=Ya (Yk HB.out hb);(try clear hb);(try clear hb2);(try clear hk);(try clear hi);(try clear ho0)));go_ret2;exact⟨by first|rfl|(simp[errW_none,errW_some]<;>rfl)|(simp[*,errW_none,errW_some]<;>rfl),HB.out⟩
 rw[Yx c8] at H;have c8b0:(t412 == 0)=true:=beq_iff_eq.mpr c8;have c8b1:(t412 != 0)=false:=bne_eq_false_iff_eq.mpr c8;clear c8;have H':=Ya H;clear H;go_enter Try.func46,Try.ntmps46;go_wp2_with (first|(refine bx 4 24 #[.int .i64 Zb, .bool Zc, .slice Ze Za.length Zd] ?_;intro Ul hg w9 Zf hb;have Wa:=Ya (Zf);have GW407:=Ya (by rw[hg];exact(Yi HB.out):w.heap.size≤Ul);have GE407:=Ya (by rw[hg];exact(Yi HB.out):w.heap.size≤Ul);replace HB:=Ya (Yk HB.out hb);clear hb Zf hg;have Wz:w9.cell? ⟨Ul,0,none⟩=some (.int .i64 Zb):=bc Wa 0;have Va:w9.cell? ⟨Ul,1,none⟩=some (.bool Zc):=bc Wa 1;have Vb:w9.cell? ⟨Ul,2,none⟩=some (.slice Ze Za.length Zd):=bc Wa 2;have Vc:=Yf Wa.out 0;have Vd:=Yf Wa.out 1;have Ve:=Yf Wa.out 2)|((with_reducible refine gate_callee (f:=65) rfl ?_);refine gl (some 16) Try.func65 #[.agg #[.int .i64 Zb, .bool Zc, .slice Ze Za.length Zd], .int .i64 a1, .int .i64 a2] ?_;(with_reducible refine(static_Ends.calls k Zb Zc _ _ Za a1 a2 t408 _ ?side1 ?side2 A5.out).mono ?_);(case side1=>exact kC (Yt Zk.out HB.out));(case side2=>exact Zm.out);rintro e w11 ⟨rfl,hb⟩;refine⟨_,rfl,?_⟩;replace Wa:=Ya (Yn Wa.out hb);replace HB:=Ya (Yk HB.out hb);(try clear hb);have Jw:w11.cell? ⟨Ul,0,none⟩=some (.int .i64 Zb):=bc Wa 0;have Jx:w11.cell? ⟨Ul,1,none⟩=some (.bool Zc):=bc Wa 1;have Jy:w11.cell? ⟨Ul,2,none⟩=some (.slice Ze Za.length Zd):=bc Wa 2;have Jz:=Yf Wa.out 0;have hfz12_1:=Yf Wa.out 1;have hfz12_2:=Yf Wa.out 2)|((with_reducible refine gate_callee (f:=73) rfl ?_);refine gl (some 23) Try.func73 #[.agg #[.int .i64 Zb, .bool Zc, .slice Ze Za.length Zd], .slice A3 l3.length c3] ?_;(with_reducible refine(static_Balance.calls k Zb Zc _ _ Za _ _ l3 t409 t412 _ ?side1 ?side2 ?side3 ?side4 A7.out).mono ?_);(case side1=>exact kC (Yt Zk.out HB.out));(case side2=>exact Zm.out);(case side3=>exact kC (Yt HR3.out HB.out));(case side4=>exact HC3.out);rintro e w13 ⟨v410,rfl,ho0,hb⟩;refine⟨_,rfl,?_⟩;have HO411:=Ya (Kd.R_lower ho0 (Yi HB.out));replace Wa:=Ya (Yn Wa.out hb);replace HB:=Ya (Yk HB.out hb);(try clear hb);(try clear hb2);(try clear hk);(try clear hi);(try clear ho0);obtain⟨Ao14,co14,eo14⟩:=Kd.R_slice HO411.out;subst eo14));go_loopg [31] k (fun kq v31 w'=> ∃ (Wn:Int),v31= .int .i64 Wn∧Aside0 (static_Check.l0 kq a1 a2 t409 t409 (t409.length:Int) Wn=some (r1,r2))∧Aside0 (kq≤k)∧Aside0 (Kd.R (Kd.int .i64) 3 w' w.heap.size (fun _=>True) (.slice Ao14 t409.length co14) t409)∧Aside0 (Kd.R (Kd.int .i64) 3 w' w.heap.size (fun _=>True) (.slice Ao14 t409.length co14) t409)∧Aside0 (w'.heap[Ul]? =some (.cells #[.int .i64 Zb, .bool Zc,(.slice Ze Za.length Zd)] 24 (0,0)))∧Aside0 (Below w.heap.size w w'))
 case atStart=>exact⟨(0),(by first|rfl|(simp;done)|(simp[*];done)),H',⟨Nat.le_refl _⟩,⟨HO411.out⟩,⟨HO411.out⟩,⟨Wa.out⟩,⟨HB.out⟩⟩
 case round=>
  clear H';try clear c3
  try clear c6
  try clear c6b0
  try clear c6b1
  try clear c8
  try clear c8b0
  try clear c8b1
  try clear Wz
  try clear Va
  try clear Vb
  try clear Jw
  try clear Jx
  try clear Jy
  try clear Vc
  try clear Vd
  try clear Ve
  try clear Jz
  try clear hfz12_1
  try clear hfz12_2
  obtain⟨Wn,rfl,HA,HK1,HO_10,HO_29,Wa,HB⟩:=hrel;cases gk with
  |zero=>exact absurd HA.out (by simp[static_Check.l0])
  |succ k1=>
   have H:=HA.out;clear HA;simp only[static_Check.l0] at H;by_cases c15:Wn<(t409.length:Int)
   rotate_left
   ·rw[Yy c15] at H
    have c15b0:decide (Wn<(t409.length:Int))=false:=Yw c15;clear c15;by_cases c21:0≤a1
    rotate_left
    ·rw[Yy c21] at H
     exact absurd H (by simp)
    rw[Yx c21] at H;have c21b0:decide (0≤a1)=true:=Yv c21;clear c21;by_cases c22:a1<(t409.length:Int)
    rotate_left
    ·rw[Yy c22] at H
     exact absurd H (by simp)
    rw[Yx c22] at H;have c22b0:decide (a1<(t409.length:Int))=true:=Yv c22;clear c22;simp only[Option.some.injEq,Prod.mk.injEq] at H;obtain⟨rfl,rfl⟩:=H;have p414:0≤(a1:Int):=od;have q414:a1<(t409.length:Int):=od;obtain⟨ad414,e414,hx414_0⟩:=Kd.at_int (Kd.R_reads' HO_10.out).2.2 a1 p414 q414;cases e414;replace p414:=eq_true p414;replace q414:=eq_true q414;go_wp2;go_ret2;exact⟨by first|rfl|(simp[errW_none,errW_some]<;>rfl)|(simp[*,errW_none,errW_some]<;>rfl),HB.out⟩
   rw[Yx c15] at H;have c15b0:decide (Wn<(t409.length:Int))=true:=Yv c15;clear c15;by_cases c16:0≤Wn
   rotate_left
   ·rw[Yy c16] at H
    exact absurd H (by simp)
   rw[Yx c16] at H;have c16b0:decide (0≤Wn)=true:=Yv c16;clear c16;by_cases c17:Wn<(t409.length:Int)
   rotate_left
   ·rw[Yy c17] at H
    exact absurd H (by simp)
   rw[Yx c17] at H;have c17b0:decide (Wn<(t409.length:Int))=true:=Yv c17;clear c17;by_cases c18:(rd t409 Wn)=0
   ·rw[Yx c18] at H
    have c18b0:((rd t409 Wn) == 0)=true:=beq_iff_eq.mpr c18;have c18b1:((rd t409 Wn) != 0)=false:=bne_eq_false_iff_eq.mpr c18;clear c18;have H':=Ya H;clear H;have p413:0≤(Wn:Int):=od;have q413:Wn<(t409.length:Int):=od;obtain⟨ad413,e413,hx413_0⟩:=Kd.at_int (Kd.R_reads' HO_29.out).2.2 Wn p413 q413;cases e413;replace p413:=eq_true p413;replace q413:=eq_true q413;go_wp2;go_roundg k1
    case measure=>have:=HK1.out;omega
    case rel=>exact⟨(wrap64 (Wn+1)),(by first|rfl|(simp;done)|(simp[*];done)),H',⟨by have:=HK1.out;omega⟩,⟨HO_10.out⟩,⟨HO_29.out⟩,⟨Wa.out⟩,⟨HB.out⟩⟩
   rw[Yy c18] at H;have c18b0:((rd t409 Wn) == 0)=false:=beq_eq_false_iff_ne.mpr c18;have c18b1:((rd t409 Wn) != 0)=true:=bne_iff_ne.mpr c18;by_cases c19:Wn=a1
   ·rw[Yx c19] at H
    have c19b0:(Wn == a1)=true:=beq_iff_eq.mpr c19;have c19b1:(Wn != a1)=false:=bne_eq_false_iff_eq.mpr c19;clear c19;have H':=Ya H;clear H;have p413:0≤(Wn:Int):=od;have q413:Wn<(t409.length:Int):=od;obtain⟨ad413,e413,hx413_0⟩:=Kd.at_int (Kd.R_reads' HO_29.out).2.2 Wn p413 q413;cases e413;replace p413:=eq_true p413;replace q413:=eq_true q413;go_wp2;go_roundg k1
    case measure=>have:=HK1.out;omega
    case rel=>exact⟨(wrap64 (Wn+1)),(by first|rfl|(simp;done)|(simp[*];done)),H',⟨by have:=HK1.out;omega⟩,⟨HO_10.out⟩,⟨HO_29.out⟩,⟨Wa.out⟩,⟨HB.out⟩⟩
   rw[Yy c19] at H;have c19b0:(Wn == a1)=false:=beq_eq_false_iff_ne.mpr c19;have c19b1:(Wn != a1)=true:=bne_iff_ne.mpr c19;by_cases c20:Wn=a2
   rotate_left
   ·rw[Yy c20] at H
    have c20b0:(Wn == a2)=false:=beq_eq_false_iff_ne.mpr c20;have c20b1:(Wn != a2)=true:=bne_iff_ne.mpr c20;simp only[Option.some.injEq,Prod.mk.injEq] at H;obtain⟨rfl,rfl⟩:=H;have p413:0≤(Wn:Int):=od;have q413:Wn<(t409.length:Int):=od;obtain⟨ad413,e413,hx413_0⟩:=Kd.at_int (Kd.R_reads' HO_29.out).2.2 Wn p413 q413;cases e413;replace p413:=eq_true p413;replace q413:=eq_true q413;go_wp2;go_ret2;exact⟨by first|rfl|(simp[errW_none,errW_some]<;>rfl)|(simp[*,errW_none,errW_some]<;>rfl),HB.out⟩
   rw[Yx c20] at H;have c20b0:(Wn == a2)=true:=beq_iff_eq.mpr c20;have c20b1:(Wn != a2)=false:=bne_eq_false_iff_eq.mpr c20;clear c20;have H':=Ya H;clear H;have p413:0≤(Wn:Int):=od;have q413:Wn<(t409.length:Int):=od;obtain⟨ad413,e413,hx413_0⟩:=Kd.at_int (Kd.R_reads' HO_29.out).2.2 Wn p413 q413;cases e413;replace p413:=eq_true p413;replace q413:=eq_true q413;go_wp2;go_roundg k1
   case measure=>have:=HK1.out;omega
   case rel=>exact⟨(wrap64 (Wn+1)),(by first|rfl|(simp;done)|(simp[*];done)),H',⟨by have:=HK1.out;omega⟩,⟨HO_10.out⟩,⟨HO_29.out⟩,⟨Wa.out⟩,⟨HB.out⟩⟩
end P
end Go.Proofs.Ytoedkglggapggaa
