/- What the law's row needs of these texts, taken out of them by wip/tool/mini.py: QCheckRef QMostLaw QWorthLaw QSpanMostLaw QRead12B QLSpanGrows QLSpanStill. -/
import Derived.Test.YtkcpanpdipmmmaaMbioojn
import Derived.Test.YtkcpanpdipmmmaaMonmahc
import Derived.Test.YtkcpanpdipmmmaaMmjhbac
import Derived.Test.YtkcpanpdipmmmaaMgapjbd
import Derived.Deep.RegionHeld3
import Derived.Deep.DeepCutAuto
import Derived.Test.YtkcpanpdipmmmaaMnhpgej
set_option linter.unusedVariables false
set_option linter.unusedSimpArgs false
open Go.RowKit Go.Proofs.YtkcpanpdipmmmaaW.PrintWords Go.Proofs.YtkcpanpdipmmmaaW.PrintLast Go.Proofs.YtkcpanpdipmmmaaW.PrintMore
namespace Go.Proofs.Ytkcpanpdipmmmaa
namespace Q
open P
open H (endsErr Right right_of StepOf stRoom IsFlow leastR pushW stRoom_in)
theorem endsE_ok {n:Int} {l:List S74} {s t:Int} (h:endsErr n l s t=0):NetOk n l∧0≤s∧s<n∧0≤t∧t<n∧s≠t:=by
 unfold endsErr at h
 by_cases hn:netErr n l=0
 ·rw[Yx hn] at h
  split at h
  ·rename_i he
   exact⟨netErr_ok hn,he⟩
  ·cases h
 ·rw[Yy hn] at h;exact absurd h hn
theorem endsE_of {n:Int} {l:List S74} {s t:Int} (hn:NetOk n l) (h:0≤s∧s<n∧0≤t∧t<n∧s≠t):endsErr n l s t=0:=by
 unfold endsErr
 rw[Yx (netOk_err hn),Yx h]
def evenB (s t:Int):List Int→Int→Bool
 |[],_=>true
 |x::l,i=>if i=s then evenB s t l (i+1) else if i=t then evenB s t l (i+1) else if x=0 then evenB s t l (i+1) else false
def valRes (n:Int) (l:List S74) (s t:Int) (f:List Int):Int × Int:=
 if endsErr n l s t=0 then(if askErr n l f=0 then(if evenB s t (balOf n l f) 0=true then(bal l f s,0) else(0,71)) else(0,askErr n l f)) else(0,endsErr n l s t)
theorem evenB_iff (s t:Int) (X:List Int): ∀ i:Int,evenB s t X i=true↔ ∀ j:Nat,j<X.length→i+j≠s→i+j≠t→X.getD j 0=0:=by
 induction X with
 |nil=>intro i;simp[evenB]
 |cons x X ih=>
  intro i
  have key:evenB s t X (i+1)=true↔ ∀ j:Nat,j+1<(x::X).length→i+(j+1:Nat)≠s→i+(j+1:Nat)≠t→(x::X).getD (j+1) 0=0:=by
   rw[ih (i+1)]
   constructor
   ·intro h j h1 h2 h3
    rw[List.getD_cons_succ]
    exact h j (by simpa using h1) (by omega) (by omega)
   ·intro h j h1 h2 h3
    have:=h j (by simpa using h1) (by omega) (by omega)
    rwa [List.getD_cons_succ] at this
  have all:(i≠s→i≠t→x=0)→(evenB s t X (i+1)=true↔ ∀ j:Nat,j<(x::X).length→i+j≠s→i+j≠t→(x::X).getD j 0=0):=by
   intro hx
   rw[key]
   constructor
   ·intro h j h1 h2 h3
    cases j with
    |zero=>exact hx (by simpa using h2) (by simpa using h3)
    |succ j=>exact h j h1 h2 h3
   ·intro h j h1 h2 h3
    exact h (j+1) h1 h2 h3
  unfold evenB
  by_cases h1:i=s
  ·rw[Yx h1];exact all (fun h=>absurd h1 h)
  rw[Yy h1]
  by_cases h2:i=t
  ·rw[Yx h2];exact all (fun _ h=>absurd h2 h)
  rw[Yy h2]
  by_cases h3:x=0
  ·rw[Yx h3];exact all (fun _ _=>h3)
  ·rw[Yy h3]
   constructor
   ·intro h;cases h
   ·intro h
    exact absurd (h 0 (by simp) (by simpa using h1) (by simpa using h2)) h3
theorem flowOk_of {l:List S74} {F:List Int} {n:Nat} (hr:Right l F n):FlowOk l F:=by
 refine⟨hr.len,fun i hi=> ?_⟩
 have:=hr.nums i (by rw[← hr.len];exact hi)
 rw[rd_nat]
 exact⟨this.2.2.1,this.2.2.2.1⟩
theorem even_flow {n:Nat} {l:List S74} {F:List Int} {s t:Int} (hr:Right l F n):evenB s t (balOf n l F) 0=true↔IsFlow l F n s t:=by
 rw[evenB_iff]
 have hlen:=balOf_len (n:Int) l F
 rw[Int.toNat_natCast] at hlen
 have hg: ∀ v:Nat,v<n→(balOf n l F).getD v 0=bal l F v:=fun v hv=>by
  have h_:=rd_balOf (n:=(n:Int)) (l:=l) (f:=F) (v:=(v:Int)) (by omega) (by omega)
  rw[rd_nat] at h_
  exact h_
 constructor
 ·intro h
  refine⟨hr,fun v h0 h1 h2 h3=> ?_⟩
  obtain⟨v,rfl⟩: ∃ v':Nat,v=v':=⟨v.toNat,by omega⟩
  rw[← hg v (by omega)]
  exact h v (by omega) (by omega) (by omega)
 ·intro h v hv h2 h3
  rw[hg v (by omega)]
  exact h.keeps v (by omega) (by omega) (by omega) (by omega)
theorem flow_val {n:Int} {l:List S74} {F:List Int} {s t:Int} (h:(valRes n l s t F).2=0):endsErr n l s t=0∧askErr n l F=0∧ ∃ n0:Nat,n=n0∧IsFlow l F n0 s t∧valRes n l s t F=(bal l F s,0):=by
 unfold valRes at h ⊢
 by_cases h1:endsErr n l s t=0
 ·rw[Yx h1] at h ⊢
  by_cases h2:askErr n l F=0
  ·rw[Yx h2] at h ⊢
   obtain⟨n0,rfl,hr⟩:=right_of h2
   by_cases h3:evenB s t (balOf n0 l F) 0=true
   ·rw[Yx h3]
    exact⟨h1,h2,n0,rfl,(even_flow hr).1 h3,rfl⟩
   ·rw[Yy h3] at h;cases h
  ·rw[Yy h2] at h;exact absurd h h2
 ·rw[Yy h1] at h;exact absurd h h1
end Q
namespace Q
open P
open H (endsErr Right right_of StepOf stRoom IsFlow MaxF leastR pushW fillF bfP nodes stepsR netG dOf frP toP)
theorem max_fill {l:List S74} {n s t:Nat} (hr:Right l (List.replicate l.length 0) n) (hs:s<n) (ht:t<n) (hst:s≠t):MaxF l (fillF l n s t) n s t:=H.fill_max hr hs ht hst
theorem value_l0 (m:Int) (l:List S74) (f:List Int) (hn:NetOk m l) (hf:FlowOk l f) (v:Int) (d:Nat): ∀ (i:Nat) (acc:Int),i+d=l.length→ -(i * 2097152)≤acc→acc≤i * 2097152→
  Ev (fun k=>maxflow_Value.l0 k v f acc l (l.length:Int) (i:Int)) (acc+bal (l.drop i) (f.drop i) v):=by
 have hlen:=hf.len
 have hl:=hn.len
 induction d with
 |zero=>
  intro i acc hi h0 h1
  refine Ev.succ ?_;simp only[maxflow_Value.l0]
  repeat(first|exact Ev.now _|with_reducible refine Ev.pos (by first|assumption|omega) ?_|with_reducible refine Ev.neg (by first|assumption|omega) ?_|with_reducible refine Ev.let_ ?_)
  rw[List.drop_of_length_le (by omega)]
  exact Ev.done (by simp[bal])
 |succ d ih=>
  intro i acc hi h0 h1
  have hs:=hf.small hn (i:=(i:Int)) (by omega) (by omega)
  refine Ev.succ ?_;simp only[maxflow_Value.l0]
  repeat(first|exact Ev.now _|with_reducible refine Ev.pos (by first|assumption|omega) ?_|with_reducible refine Ev.neg (by first|assumption|omega) ?_|with_reducible refine Ev.let_ ?_)
  rw[wrap_succ (n:=l.length) (by omega) (by omega),drop_getD l i z74 (by omega),drop_getD f i 0 (by omega), ← rdArc_nat, ← rd_nat,bal_cons]
  refine Ev.ite (fun g=> ?_) (fun g=> ?_)
  ·rw[Yx g]
   refine Ev.pos (by omega) ?_
   refine Ev.ite (fun g2=> ?_) (fun g2=> ?_)
   ·rw[Yx g2,wrap_id (x:=acc+rd f (i:Int)) (by omega) (by omega),wrap_id (by omega) (by omega)]
    exact Ev.eq (ih (i+1) _ (by omega) (by omega) (by omega)) (by omega)
   ·rw[Yy g2,wrap_id (x:=acc+rd f (i:Int)) (by omega) (by omega)]
    exact Ev.eq (ih (i+1) _ (by omega) (by omega) (by omega)) (by omega)
  ·rw[Yy g]
   refine Ev.ite (fun g2=> ?_) (fun g2=> ?_)
   ·refine Ev.pos (by omega) ?_
    rw[Yx g2,wrap_id (x:=acc - rd f (i:Int)) (by omega) (by omega)]
    exact Ev.eq (ih (i+1) _ (by omega) (by omega) (by omega)) (by omega)
   ·rw[Yy g2]
    exact Ev.eq (ih (i+1) _ (by omega) (by omega) (by omega)) (by omega)
theorem value_ev (n m:Int) (b:Bool) (l:List S74) (f:List Int) (hn:NetOk m l) (hf:FlowOk l f) (v:Int):Ev (fun k=>maxflow_Value.f k n b l v f) (bal l f v):=by
 unfold maxflow_Value.f
 exact Ev.eq (value_l0 m l f hn hf v l.length 0 0 (by omega) (by omega) (by omega)) (by rw[List.drop_zero,List.drop_zero];omega)
def maxR (n:Int) (l:List S74) (s t:Int):List Int × Int × Int:=
 if endsErr n l s t=0 then(fillF l n.toNat s.toNat t.toNat,bal l (fillF l n.toNat s.toNat t.toNat) s,0) else([],0,endsErr n l s t)
def mostR (n:Int) (l:List S74) (s t:Int):Int × Int:=
 if endsErr n l s t=0 then(bal l (fillF l n.toNat s.toNat t.toNat) s,0) else(0,endsErr n l s t)
theorem fill_eq {n:Int} {l:List S74} {s t:Int} (b:Bool) (h:endsErr n l s t=0):maxflow_Fill.f n b l s t=some (fillF l n.toNat s.toNat t.toNat):=by unfold maxflow_Fill.f;rw[Yx h]
theorem max_ev (n:Int) (b:Bool) (l:List S74) (s t:Int):Ev (fun k=>maxflow_Max.f k n b l s t) (maxR n l s t):=by
 unfold maxflow_Max.f maxR
 refine Ev.bind (ends_ev n b l s t) ?_
 by_cases h:endsErr n l s t=0
 ·rw[Yx h]
  refine Ev.pos h ?_
  refine Ev.call (fill_eq b h) ?_
  obtain⟨n0,s0,t0,rfl,rfl,rfl,hs,ht,hst,hn,hr⟩:=ends_zero h
  simp only[Int.toNat_natCast]
  refine Ev.bind (value_ev n0 n0 b l _ hn (flowOk_of (max_fill hr hs ht hst).flow.right) s0) ?_
  exact Ev.now _
 ·rw[Yy h]
  refine Ev.neg h ?_
  exact Ev.now _
theorem most_ev (n:Int) (b:Bool) (l:List S74) (s t:Int):Ev (fun k=>maxflow_Most.f k n b l s t) (mostR n l s t):=by
 unfold maxflow_Most.f
 refine Ev.bind (max_ev n b l s t) ?_
 refine Ev.done ?_
 unfold maxR mostR
 split<;>rfl
theorem mostR_nat {l:List S74} {n s t:Nat} (h:endsErr (n:Int) l (s:Int) (t:Int)=0):mostR n l s t=(bal l (fillF l n s t) s,0):=by
 unfold mostR;rw[Yx h];simp only[Int.toNat_natCast]
end Q
namespace Q
open P
open H (endsErr Right right_of IsFlow payS worthS)
theorem balance_l0 (n:Int) (l:List S74) (f:List Int) (hn:NetOk n l) (hf:FlowOk l f) (d:Nat): ∀ (i:Nat) (x:List Int),i+d=l.length→x.length=n.toNat→(∀ v:Nat,v<x.length→ -(i * 2097152)≤rd x v∧rd x v≤i * 2097152)→
  ∃ r,Ev (fun k=>static_Balance.l0 k f x l (l.length:Int) (i:Int)) (r,0)∧r.length=x.length∧ ∀ v:Nat,v<x.length→rd r v=rd x v+bal (l.drop i) (f.drop i) v:=by
 have hlen:=hf.len
 have hl:=hn.len
 induction d with
 |zero=>
  intro i x hi hx hb
  refine⟨x,?_,rfl,fun v hv=> ?_⟩
  ·refine Ev.succ ?_;simp only[static_Balance.l0]
   repeat(first|exact Ev.now _|with_reducible refine Ev.pos (by first|assumption|omega) ?_|with_reducible refine Ev.neg (by first|assumption|omega) ?_|with_reducible refine Ev.let_ ?_)
  ·rw[List.drop_of_length_le (by omega)]
   simp[bal]
 |succ d ih=>
  intro i x hi hx hb
  have ha:=hn.at_ (i:=(i:Int)) (by omega) (by omega)
  have hs:=hf.small hn (i:=(i:Int)) (by omega) (by omega)
  have h1:=ha.f0
  have h2:=ha.f1
  have h3:=ha.h0
  have h4:=ha.h1
  have hb1:=hb (rd_T74 l (i:Int)).f0.toNat (by omega)
  have e1:(((rd_T74 l (i:Int)).f0.toNat:Nat):Int)=(rd_T74 l (i:Int)).f0:=by omega
  have e2:(((rd_T74 l (i:Int)).f1.toNat:Nat):Int)=(rd_T74 l (i:Int)).f1:=by omega
  rw[e1] at hb1
  have hb2:=hb (rd_T74 l (i:Int)).f1.toNat (by omega)
  rw[e2] at hb2
  obtain⟨r,hr,hrl,hrv⟩:=ih (i+1) ((x.set (rd_T74 l (i:Int)).f0.toNat (wrap64 (rd x (rd_T74 l (i:Int)).f0+rd f (i:Int)))).set (rd_T74 l (i:Int)).f1.toNat
    (wrap64 (rd (x.set (rd_T74 l (i:Int)).f0.toNat (wrap64 (rd x (rd_T74 l (i:Int)).f0+rd f (i:Int)))) (rd_T74 l (i:Int)).f1 - rd f (i:Int)))) (by omega) (by simpa using hx) (by
   intro v hv
   have hv':v<x.length:=by simpa using hv
   have hbv:=hb v hv'
   rw[rd_set _ _ _ _ h2 (by simp;omega) (by omega),rd_set _ _ _ _ h1 (by omega) h2,rd_set _ _ _ _ h1 (by omega) (by omega)]
   have w1:wrap64 (rd x (rd_T74 l (i:Int)).f0+rd f (i:Int))=rd x (rd_T74 l (i:Int)).f0+rd f (i:Int):=wrap_id (by omega) (by omega)
   rw[w1]
   split
   ·split
    ·rename_i h5 h6
     rw[wrap_id (by omega) (by omega)]
     omega
    ·rename_i h5 h6
     rw[wrap_id (by omega) (by omega)]
     omega
   ·split
    ·omega
    ·omega)
  refine⟨r,?_,by simpa using hrl,fun v hv=> ?_⟩
  ·refine Ev.succ ?_;simp only[static_Balance.l0]
   repeat(first|exact Ev.now _|with_reducible refine Ev.pos (by first|assumption|omega) ?_|with_reducible refine Ev.neg (by first|assumption|omega) ?_|with_reducible refine Ev.let_ ?_)
   rw[wrap_succ (n:=l.length) (by omega) (by omega)]
   exact hr
  ·rw[hrv v (by simpa using hv),rd_set _ _ _ _ h2 (by simp;omega) (by omega),rd_set _ _ _ _ h1 (by omega) h2,rd_set _ _ _ _ h1 (by omega) (by omega)]
   have w1:wrap64 (rd x (rd_T74 l (i:Int)).f0+rd f (i:Int))=rd x (rd_T74 l (i:Int)).f0+rd f (i:Int):=wrap_id (by omega) (by omega)
   rw[w1,drop_getD l i z74 (by omega),drop_getD f i 0 (by omega), ← rdArc_nat, ← rd_nat,bal_cons]
   by_cases h5:(rd_T74 l (i:Int)).f1=(v:Int)
   ·rw[Yx h5,Yx h5]
    by_cases h6:(rd_T74 l (i:Int)).f0=(v:Int)
    ·rw[Yx (by omega),Yx h6,wrap_id (by omega) (by omega),h6]
     omega
    ·rw[Yy (by omega),Yy h6,wrap_id (by omega) (by omega),h5]
     omega
   ·rw[Yy h5,Yy h5]
    by_cases h6:(rd_T74 l (i:Int)).f0=(v:Int)
    ·rw[Yx h6,Yx h6,h6]
     omega
    ·rw[Yy h6,Yy h6]
     omega
theorem rd_zeros (m:Nat) (v:Int):rd (List.replicate m 0) v=0:=by
 unfold rd
 rw[List.getD_eq_getElem?_getD,List.getElem?_replicate]
 split<;>rfl
theorem balance_ev (n:Int) (b:Bool) (l:List S74) (f:List Int):Ev (fun k=>static_Balance.f k n b l f) (balRes n l f):=by
 unfold static_Balance.f balRes
 refine Ev.bind (asked_ev n b l f) ?_
 refine Ev.ite (fun h=> ?_) (fun h=> ?_)
 ·rw[Yx h]
  obtain⟨hn,hf⟩:=askErr_ok h
  have:=hn.lo
  have:=hn.hi
  repeat(first|exact Ev.now _|with_reducible refine Ev.pos (by first|assumption|omega) ?_|with_reducible refine Ev.neg (by first|assumption|omega) ?_|with_reducible refine Ev.let_ ?_)
  obtain⟨r,hr,hrl,hrv⟩:=balance_l0 n l f hn hf l.length 0 (List.replicate n.toNat 0) (by omega) (by simp) (fun v hv=>by rw[rd_zeros];omega)
  refine Ev.eq hr ?_
  rw[List.length_replicate] at hrl hrv
  congr 1
  refine ext_rd (by rw[hrl,balOf_len]) fun v hv=> ?_
  rw[hrv v (by omega),rd_zeros,rd_balOf (by omega) (by omega),List.drop_zero,List.drop_zero]
  omega
 ·rw[Yy h]
  exact Ev.now _
theorem check2_l0 (s t:Int) (b:List Int) (hb:b.length≤50) (hs:0≤s) (hsn:s<b.length) (d:Nat): ∀ i:Nat,i+d=b.length→
  Ev (fun k=>static_Check.l0 k s t b b (b.length:Int) (i:Int)) (if evenB s t (b.drop i) i=true then(rd b s,0) else(0,71)):=by
 induction d with
 |zero=>
  intro i hi
  refine Ev.succ ?_;simp only[static_Check.l0]
  repeat(first|exact Ev.now _|with_reducible refine Ev.pos (by first|assumption|omega) ?_|with_reducible refine Ev.neg (by first|assumption|omega) ?_|with_reducible refine Ev.let_ ?_)
  rw[List.drop_of_length_le (by omega)]
  exact Ev.now _
 |succ d ih=>
  intro i hi
  refine Ev.succ ?_;simp only[static_Check.l0]
  repeat(first|exact Ev.now _|with_reducible refine Ev.pos (by first|assumption|omega) ?_|with_reducible refine Ev.neg (by first|assumption|omega) ?_|with_reducible refine Ev.let_ ?_)
  rw[drop_getD b i 0 (by omega),rd_nat,wrap_succ (n:=b.length) (by omega) (by omega)]
  unfold evenB
  have:=ih (i+1) (by omega)
  rw[show ((i+1:Nat):Int)=(i:Int)+1 by omega] at this ⊢
  refine Ev.ite (fun g=> ?_) (fun g=> ?_)
  ·rw[Yx g,ite_self,ite_self];exact this
  refine Ev.ite (fun g2=> ?_) (fun g2=> ?_)
  ·rw[Yx g2];exact this
  rw[Yy g2]
  refine Ev.ite (fun g3=> ?_) (fun g3=> ?_)
  ·rw[Yx g3];exact this
  rw[Yy g3,Yy g]
  exact Ev.now _
theorem stat_value_ev (n:Int) (b:Bool) (l:List S74) (s t:Int) (f:List Int):Ev (fun k=>static_Check.f k n b l s t f) (valRes n l s t f):=by
 unfold static_Check.f valRes
 refine Ev.bind (ends_ev n b l s t) ?_
 refine Ev.ite (fun h=> ?_) (fun h=> ?_)
 ·rw[Yx h]
  obtain⟨hn,he1,he2,he3,he4,he5⟩:=endsE_ok h
  have:=hn.lo;have:=hn.hi
  refine Ev.bind (balance_ev n b l f) ?_
  by_cases g:askErr n l f=0
  ·rw[Yx g,balRes_ok g]
   refine Ev.pos rfl ?_
   refine Ev.eq (check2_l0 s t (balOf n l f) (by rw[balOf_len];omega) (by omega) (by rw[balOf_len];omega) _ 0 (Nat.zero_add _)) ?_
   rw[rd_balOf (by omega) (by omega),List.drop_zero]
   rfl
  ·rw[Yy g,balRes_no g]
   exact Ev.neg g (Ev.now _)
 ·rw[Yy h]
  exact Ev.now _
theorem pay_mul {x t:Int} (h0:0≤x) (h1:x≤1048576) (h2:0≤t) (h3:t≤1048576):0≤x * t∧x * t≤1099511627776:=by
 refine⟨Int.mul_nonneg h0 h2,?_⟩
 have:=Int.mul_le_mul h1 h3 h2 (show (0:Int)≤1048576 by decide)
 omega
theorem pay_bd {l:List S74} {F:List Int} {n:Nat} (hr:Right l F n) (d:Nat): ∀ (i:Nat),i+d=l.length→0≤payS (l.drop i) (F.drop i)∧payS (l.drop i) (F.drop i)≤1099511627776 * (d:Int):=by
 have hl:=hr.len
 induction d with
 |zero=>
  intro i hi
  rw[List.drop_of_length_le (show l.length≤i by omega),List.drop_of_length_le (show F.length≤i by omega)]
  simp[payS]
 |succ d ih=>
  intro i hi
  have hn:=hr.nums i (by omega)
  have hb:=pay_mul hn.2.2.1 (by omega) hn.1 hn.2.1
  have:=ih (i+1) (by omega)
  rw[drop_getD l i z74 (by omega),drop_getD F i 0 (by omega),H.payS_cons, ← rdArc_nat]
  omega
theorem pay_l0 {l:List S74} {F:List Int} {n:Nat} (hr:Right l F n) (d:Nat): ∀ (i:Nat) (k:Int),i+d=l.length→0≤k→k≤1099511627776 * (i:Int)→
  Ev (fun m=>span_paid.l0 m F k l (l.length:Int) (i:Int)) (k+payS (l.drop i) (F.drop i)):=by
 have hl:=hr.len
 have hl2:=hr.arcs
 induction d with
 |zero=>
  intro i k hi h0 h1
  refine Ev.succ ?_;simp only[span_paid.l0]
  refine Ev.neg (by omega) ?_
  rw[List.drop_of_length_le (show l.length≤i by omega),List.drop_of_length_le (show F.length≤i by omega)]
  exact Ev.done (by simp[payS])
 |succ d ih=>
  intro i k hi h0 h1
  have hn:=hr.nums i (by omega)
  have hb:=pay_mul hn.2.2.1 (by omega) hn.1 hn.2.1
  have e1:rd F (i:Int)=F.getD i 0:=rd_nat F i
  refine Ev.succ ?_;simp only[span_paid.l0]
  refine Ev.pos (by omega) ?_
  refine Ev.pos (by omega) ?_
  refine Ev.pos (by omega) ?_
  refine Ev.pos (by omega) ?_
  rw[e1,wrap_succ (n:=200) (by omega) (by omega),wrap_id (x:=F.getD i 0 * (rd_T74 l i).f3) (by omega) (by omega),wrap_id (x:=k+F.getD i 0 * (rd_T74 l i).f3) (by omega) (by omega)]
  refine Ev.eq (ih (i+1) _ (by omega) (by omega) (by omega)) ?_
  rw[drop_getD l i z74 (by omega),drop_getD F i 0 (by omega),H.payS_cons, ← rdArc_nat]
  omega
theorem pay_ev (n m:Int) (n0:Nat) (b:Bool) (l:List S74) (F:List Int) (hr:Right l F n0):Ev (fun m=>span_paid.f m n b l F) (payS l F):=by
 unfold span_paid.f
 have:=pay_l0 hr l.length 0 0 (by omega) (by omega) (by omega)
 exact Ev.eq this (by rw[List.drop_zero,List.drop_zero,Int.zero_add])
def horErr (h:Int):Int:=if h<0 then 1 else if h>1024 then 2 else 0
def spanErr (n:Int) (l:List S74) (s t h:Int):Int:=if endsErr n l s t=0 then horErr h else endsErr n l s t
theorem hor_ok {h:Int} (e:horErr h=0):0≤h∧h≤1024:=by
 unfold horErr at e
 split at e
 ·cases e
 ·split at e
  ·cases e
  ·omega
theorem spanErr_ok {n:Int} {l:List S74} {s t h:Int} (e:spanErr n l s t h=0):endsErr n l s t=0∧0≤h∧h≤1024:=by
 unfold spanErr at e
 by_cases g:endsErr n l s t=0
 ·rw[Yx g] at e;exact⟨g,hor_ok e⟩
 ·rw[Yy g] at e;exact absurd e g
theorem span_asked_ev (n:Int) (b:Bool) (l:List S74) (s t h:Int):Ev (fun k=>span_Asked.f k n b l s t h) (spanErr n l s t h):=by
 unfold span_Asked.f spanErr
 refine Ev.bind (ends_ev n b l s t) ?_
 refine Ev.ite (fun g=> ?_) (fun g=> ?_)
 ·rw[Yx g]
  have e:span_Horizon.f h=some (horErr h):=by
   unfold span_Horizon.f horErr
   split
   ·rfl
   ·split<;>rfl
  rw[e]
  exact Ev.now _
 ·rw[Yy g];exact Ev.now _
def worthR (n:Int) (l:List S74) (s t:Int) (F:List Int) (h:Int):Int × Int:=
 if spanErr n l s t h=0 then(if (valRes n l s t F).2=0 then(wrap64 (wrap64 (wrap64 (h+1) * (valRes n l s t F).1) - payS l F),0) else(0,(valRes n l s t F).2)) else(0,spanErr n l s t h)
theorem worth_ev (n:Int) (b:Bool) (l:List S74) (s t:Int) (F:List Int) (h:Int):Ev (fun k=>span_Worth.f k n b l s t F h) (worthR n l s t F h):=by
 unfold span_Worth.f worthR
 refine Ev.bind (span_asked_ev n b l s t h) ?_
 refine Ev.ite (fun g=> ?_) (fun g=> ?_)
 ·rw[Yx g]
  refine Ev.bind (stat_value_ev n b l s t F) ?_
  refine Ev.ite (fun g2=> ?_) (fun g2=> ?_)
  ·rw[Yx g2]
   obtain⟨h1,h2,_⟩:=flow_val g2
   obtain⟨n0,rfl,hr⟩:=right_of h2
   refine Ev.bind (pay_ev n0 n0 n0 b l F hr) ?_
   exact Ev.now _
  ·rw[Yy g2];exact Ev.now _
 ·rw[Yy g];exact Ev.now _
end Q
namespace Q
open P
open H (endsErr Right right_of IsFlow payS worthS SpanTop fillS fillRes fillS_top)
theorem span_top {l:List S74} {n s t:Nat} {h:Int} (hr:Right l (List.replicate l.length 0) n) (hs:s<n) (ht:t<n) (hst:s≠t) (hH:0≤h):SpanTop l (fillS l n s t h) n s t h:=(fillS_top hr hs ht hst hH).1
theorem bal_bd {l:List S74} {F:List Int} {n s t:Nat} (hf:IsFlow l F n s t) (hs:s<n) (ht:t<n) (hst:s≠t): -209715200≤bal l F s∧bal l F s≤209715200:=by
 have h1:=H.flow_top hf hs hst
 have h2:=H.flow_ends hf hs ht hst
 have h3:=H.flow_top (s:=t) (t:=s) ⟨hf.right,fun v a b c d=>hf.keeps v a b d c⟩ ht (fun e=>hst e.symm)
 omega
theorem times_bd {h v:Int} (h0:0≤h) (h1:h≤1026) (a: -209715200≤v) (b:v≤209715200): -216006656000≤(h+1) * v∧(h+1) * v≤216006656000:=by
 have e1:=Int.mul_le_mul_of_nonneg_left b (show 0≤h+1 by omega)
 have e2:=Int.mul_le_mul_of_nonneg_left a (show 0≤h+1 by omega)
 omega
theorem worth_wrap {l:List S74} {F:List Int} {n s t:Nat} {h:Int} (hf:IsFlow l F n s t) (hs:s<n) (ht:t<n) (hst:s≠t) (h0:0≤h) (h1:h≤1024):wrap64 (wrap64 (wrap64 (h+1) * bal l F s) - payS l F)=worthS l F s (h+1):=by
 obtain⟨b1,b2⟩:=bal_bd hf hs ht hst
 obtain⟨c1,c2⟩:=times_bd h0 (by omega) b1 b2
 have har:=hf.right.arcs
 obtain⟨p1,p2⟩:=pay_bd hf.right l.length 0 (by omega)
 rw[List.drop_zero,List.drop_zero] at p1 p2
 unfold worthS
 rw[wrap_id (x:=h+1) (by omega) (by omega),wrap_id (x:=(h+1) * bal l F s) (by omega) (by omega),wrap_id (by omega) (by omega)]
def sbestR (n:Int) (l:List S74) (s t h:Int):List Int × Int × Int:=
 if spanErr n l s t h=0 then(fillS l n.toNat s.toNat t.toNat h,worthS l (fillS l n.toNat s.toNat t.toNat h) s.toNat (h+1),0) else([],0,spanErr n l s t h)
def smostR (n:Int) (l:List S74) (s t h:Int):Int × Int:=
 if spanErr n l s t h=0 then(worthS l (fillS l n.toNat s.toNat t.toNat h) s.toNat (h+1),0) else(0,spanErr n l s t h)
theorem sbest_ev (n:Int) (b:Bool) (l:List S74) (s t h:Int):Ev (fun k=>span_Best.f k n b l s t h) (sbestR n l s t h):=by
 unfold span_Best.f sbestR
 refine Ev.bind (span_asked_ev n b l s t h) ?_
 by_cases g:spanErr n l s t h=0
 ·rw[Yx g]
  refine Ev.pos g ?_
  obtain⟨g1,g2,g3⟩:=spanErr_ok g
  refine Ev.call (show span_Fill.f n b l s t h=some (fillRes l n.toNat s.toNat t.toNat h) by unfold span_Fill.f;rw[Yx ⟨g1,g2⟩]) ?_
  obtain⟨n0,s0,t0,rfl,rfl,rfl,hs,ht,hst,hn,hr⟩:=ends_zero g1
  simp only[Int.toNat_natCast]
  have hf:=(span_top hr hs ht hst g2).ok.flow
  refine Ev.bind (value_ev n0 n0 b l _ hn (flowOk_of hf.right) s0) ?_
  refine Ev.bind (pay_ev n0 n0 n0 b l _ hf.right) ?_
  refine Ev.done ?_
  show (fillS l n0 s0 t0 h,wrap64 (wrap64 (wrap64 (h+1) * bal l (fillS l n0 s0 t0 h) s0) - payS l (fillS l n0 s0 t0 h)),(0:Int))=_
  rw[worth_wrap hf hs ht hst g2 g3]
 ·rw[Yy g]
  refine Ev.neg g ?_
  exact Ev.now _
theorem smost_ev (n:Int) (b:Bool) (l:List S74) (s t h:Int):Ev (fun k=>span_Most.f k n b l s t h) (smostR n l s t h):=by
 unfold span_Most.f
 refine Ev.bind (sbest_ev n b l s t h) ?_
 refine Ev.done ?_
 unfold sbestR smostR
 split<;>rfl
theorem smostR_nat {l:List S74} {n s t:Nat} {h:Int} (g:spanErr (n:Int) l (s:Int) (t:Int) h=0):smostR n l s t h=(worthS l (fillS l n s t h) s (h+1),0):=by
 unfold smostR;rw[Yx g];simp only[Int.toNat_natCast]
def line:List S74:=[(⟨0,1,2,1⟩:S74),(⟨1,2,2,1⟩:S74)]
theorem line_right:Right line (List.replicate line.length 0) 3:=by
 obtain⟨n0,h1,h2⟩:=right_of (n:=3) (l:=line) (F:=List.replicate line.length 0) (by decide +kernel)
 obtain rfl:n0=3:=by omega
 exact h2
theorem line_top (h:Int) (h0:0≤h):SpanTop line (fillS line 3 0 2 h) 3 0 2 h:=span_top line_right (by decide) (by decide) (by decide) h0
theorem line_flow:IsFlow line [2,2] 3 0 2:=by
 obtain⟨n0,h1,h2⟩:=right_of (n:=3) (l:=line) (F:=[2,2]) (by decide +kernel)
 obtain rfl:n0=3:=by omega
 refine⟨h2,fun v a b c d=> ?_⟩
 obtain rfl:v=1:=by omega
 decide +kernel
theorem line_worth {F:List Int} (hf:IsFlow line F 3 0 2) (c:Int): ∃ x:Int,0≤x∧x≤2∧worthS line F 0 c=c * x - 2 * x:=by
 have hl:F.length=2:=hf.right.len
 match F,hl with
 |[x,y],_=>
  have n0:=hf.right.nums 0 (by decide)
  have hk:=hf.keeps 1 (by decide) (by decide) (by decide) (by decide)
  have e1:bal line [x,y] 1=(0 - x)+((y - 0)+0):=rfl
  have e0:bal line [x,y] ((0:Nat):Int)=(x - 0)+((0 - 0)+0):=rfl
  have ep:payS line [x,y]=x * 1+(y * 1+0):=rfl
  have q:(0:Int)≤x∧x≤2:=by
   have e2:(rd_T74 line ((0:Nat):Int)).f2=2:=rfl
   have e3:[x,y].getD 0 0=x:=rfl
   rw[e2,e3] at n0
   omega
  refine⟨x,q.1,q.2,?_⟩
  unfold worthS
  rw[e0,ep]
  rw[e1] at hk
  have:x - 0+(0 - 0+0)=x:=by omega
  rw[this]
  omega
theorem awake12_ev:Ev (fun k=>ebbtidelaw12_awake.f k) true:=by
 have e1:spanErr 3 line 0 2 1=0:=by decide +kernel
 have e2:spanErr 3 line 0 2 5=0:=by decide +kernel
 have m1:smostR 3 line 0 2 1=(0,0):=by
  have h_:smostR 3 line 0 2 1=(worthS line (fillS line 3 0 2 1) 0 (1+1),0):=smostR_nat (n:=3) (l:=line) (s:=0) (t:=2) e1
  obtain⟨x,x0,x1,hx⟩:=line_worth (line_top 1 (by decide)).ok.flow (1+1)
  rw[h_,hx]
  have:(1+1) * x - 2 * x=0:=by omega
  rw[this]
 have m2:smostR 3 line 0 2 5=(8,0):=by
  have h_:smostR 3 line 0 2 5=(worthS line (fillS line 3 0 2 5) 0 (5+1),0):=smostR_nat (n:=3) (l:=line) (s:=0) (t:=2) e2
  obtain⟨x,x0,x1,hx⟩:=line_worth (line_top 5 (by decide)).ok.flow (5+1)
  have hle:=(line_top 5 (by decide)).le line_flow (by decide) (by decide) (by decide)
  have e8:worthS line [2,2] 0 (5+1)=8:=by decide +kernel
  rw[e8,hx] at hle
  rw[h_,hx]
  have:(5+1) * x - 2 * x=8:=by omega
  rw[this]
 have m3:worthR 3 line 0 2 [1,1] 2=(1,0):=by decide +kernel
 have m4:smostR 3 line 0 2 (-1)=(0,1):=by
  have e4:spanErr 3 line 0 2 (-1)=1:=by decide +kernel
  unfold smostR
  rw[e4]
  rfl
 unfold ebbtidelaw12_awake.f
 refine Ev.let_ ?_
 refine Ev.bind (smost_ev 3 false line 0 2 1) ?_
 refine Ev.bind (smost_ev 3 false line 0 2 5) ?_
 refine Ev.bind (worth_ev 3 false line 0 2 [1,1] 2) ?_
 refine Ev.bind (smost_ev 3 false line 0 2 (-1)) ?_
 rw[m1,m2,m3,m4]
 refine Ev.pos rfl ?_
 refine Ev.pos rfl ?_
 refine Ev.pos rfl ?_
 refine Ev.pos rfl ?_
 refine Ev.pos rfl ?_
 refine Ev.pos rfl ?_
 exact Ev.now _
end Q
namespace Q
open P
structure EndsOk (n s t:Int):Prop where
 s0:0≤s
 t0:0≤t
 sn:s<n
 tn:t<n
 ne:s≠t
def U8 (x:Int):Prop:=(Lit.int .u8 x).wf=true
theorem u8_in {x:Int} (h:U8 x):0≤x∧x≤255:=by
 unfold U8 at h
 simp[Lit.wf,IntKind.min,IntKind.max,IntKind.signed,IntKind.bits] at h
 omega
def BitOk (b:S135):Prop:=U8 b.f0∧U8 b.f1∧U8 b.f2∧U8 b.f3
def SmallOk (x:Int × Bool × List S135 × Int × Int × Int):Prop:=
 U8 x.1∧True∧(x.2.2.1.length≤9223372036854775807∧ ∀ b∈x.2.2.1,BitOk b)∧U8 x.2.2.2.1∧U8 x.2.2.2.2.1∧U8 x.2.2.2.2.2
theorem tmod_in {x m:Int} (h0:0≤x) (hm:0<m):0≤Int.tmod x m∧Int.tmod x m<m:=⟨Int.tmod_nonneg _ h0,Int.tmod_lt_of_pos _ hm⟩
structure SmallNet (m:Int) (hold:Bool) (r:Int × Bool × List S74 × Int × Int × Int):Prop where
 lo:2≤r.1
 hi:r.1≤5
 hold:r.2.1=hold
 net:NetOk r.1 r.2.2.1
 ends:EndsOk r.1 r.2.2.2.1 r.2.2.2.2.1
 s0:0≤r.2.2.2.2.2
 s1:r.2.2.2.2.2≤7
 len:(r.2.2.1.length:Int)≤m
 arcs: ∀ a∈r.2.2.1,a.f2≤5∧a.f3≤3
theorem read_l0 (m:Int) (hm0:0≤m) (hm:m≤100) (a0:Int) (hold:Bool) (bits:List S135) (a3 a4 a5 N:Int) (hb: ∀ b∈bits,BitOk b) (h3:U8 a3) (h4:U8 a4) (h5:U8 a5) (hN0:2≤N) (hN1:N≤5) (d:Nat):
  ∀ (i:Nat) (arcs:List S74),(i:Int)+d=m→arcs.length=i→(∀ a∈arcs,ArcOk N a∧a.f2≤5∧a.f3≤3)→
   ∃ r,Ev (fun k=>ebbtidelaw12_Read.l0 k m (i:Int) a0 hold bits a3 a4 a5 N hold arcs) r∧SmallNet m hold r:=by
 have h3:=u8_in h3
 have h4:=u8_in h4
 have h5:=u8_in h5
 have w3:=tmod_in (x:=a3) (m:=N) h3.1 (by omega)
 have w4:=tmod_in (x:=a4) (m:=N - 1) h4.1 (by omega)
 have w5:=tmod_in (x:=a5) (m:=8) h5.1 (by omega)
 have wt:=tmod_in (x:=Int.tmod a3 N+1+Int.tmod a4 (N - 1)) (m:=N) (by omega) (by omega)
 have hne:Int.tmod a3 N≠Int.tmod (Int.tmod a3 N+1+Int.tmod a4 (N - 1)) N:=by
  intro e
  rw[Int.tmod_eq_emod_of_nonneg (a:=Int.tmod a3 N+1+Int.tmod a4 (N - 1)) (by omega)] at e
  generalize Int.tmod a3 N=s at *
  generalize Int.tmod a4 (N - 1)=t at *
  have h1:=Int.emod_add_mul_ediv (s+1+t) N
  rw[← e] at h1
  generalize (s+1+t) / N=q at h1
  have hcase:q≤0∨q=1∨2≤q:=by omega
  rcases hcase with hq|hq|hq
  ·have:N * q≤0:=Int.mul_nonpos_of_nonneg_of_nonpos (by omega) hq
   omega
  ·subst hq;omega
  ·have:N * 2≤N * q:=Int.mul_le_mul_of_nonneg_left hq (by omega)
   omega
 have fin: ∀ arcs:List S74,(arcs.length:Int)≤m→(∀ a∈arcs,ArcOk N a∧a.f2≤5∧a.f3≤3)→
   SmallNet m hold (N,hold,arcs,Int.tmod (wrap64 a3) N,Int.tmod (wrap64 (wrap64 (Int.tmod (wrap64 a3) N+1)+Int.tmod (wrap64 a4) (wrap64 (N - 1)))) N,Int.tmod (wrap64 a5) 8):=by
  intro arcs hl ha
  rw[wrap_id (x:=a3) (by omega) (by omega),wrap_id (x:=a4) (by omega) (by omega),wrap_id (x:=a5) (by omega) (by omega),wrap_id (x:=N - 1) (by omega) (by omega),wrap_id (x:=Int.tmod a3 N+1) (by omega) (by omega),wrap_id (by omega) (by omega)]
  exact⟨hN0,hN1,rfl,⟨by show 1≤N;omega,by show N≤50;omega,by show arcs.length≤200;omega,fun a h=>(ha a h).1⟩,⟨w3.1,wt.1,w3.2,wt.2,hne⟩,w5.1,by show Int.tmod a5 8≤7;omega,hl,fun a h=>(ha a h).2⟩
 have hw:wrap64 (N - 1)=N - 1:=wrap_id (by omega) (by omega)
 induction d with
 |zero=>
  intro i arcs hi hl ha
  refine⟨_,?_,fin arcs (by omega) ha⟩
  refine Ev.succ ?_;simp only[ebbtidelaw12_Read.l0]
  refine Ev.ite (fun g=> ?_) (fun g=> ?_)
  ·exact Ev.neg (by omega) (Ev.neg (by omega) (Ev.neg (by omega) (Ev.now _)))
  ·exact Ev.neg (by omega) (Ev.neg (by omega) (Ev.now _))
 |succ d ih=>
  intro i arcs hi hl ha
  by_cases g:(i:Int)<(bits.length:Int)
  ·have hbit:=hb (rd_T135 bits (i:Int)) (getD_mem (by omega))
   obtain⟨b0,b1,b2,b3⟩:=hbit
   have b0:=u8_in b0;have b1:=u8_in b1;have b2:=u8_in b2;have b3:=u8_in b3
   have v0:=tmod_in (m:=N) b0.1 (by omega)
   have v1:=tmod_in (m:=N) b1.1 (by omega)
   have v2:=tmod_in (m:=6) b2.1 (by omega)
   have v3:=tmod_in (m:=4) b3.1 (by omega)
   obtain⟨r,hr,hp⟩:=ih (i+1) (arcs ++ [(⟨Int.tmod (rd_T135 bits (i:Int)).f0 N,Int.tmod (rd_T135 bits (i:Int)).f1 N,Int.tmod (rd_T135 bits (i:Int)).f2 6,Int.tmod (rd_T135 bits (i:Int)).f3 4⟩:S74)]) (by omega) (by simp[hl]) (by
    intro a h
    rcases List.mem_append.1 h with h|h
    ·exact ha a h
    ·rw[List.mem_singleton.1 h]
     exact⟨⟨v0.1,v1.1,v2.1,v3.1,v0.2,v1.2,by show Int.tmod _ 6≤1048576;omega,by show Int.tmod _ 4≤1048576;omega⟩,by show Int.tmod _ 6≤5;omega,by show Int.tmod _ 4≤3;omega⟩)
   refine⟨r,?_,hp⟩
   refine Ev.succ ?_;simp only[ebbtidelaw12_Read.l0]
   refine Ev.pos g (Ev.pos (by omega) (Ev.pos (by omega) (Ev.neg (by omega) (Ev.pos (by omega) ?_))))
   rw[wrap_succ (n:=101) (by omega) (by omega),wrap_id (x:=(rd_T135 bits (i:Int)).f0) (by omega) (by omega),wrap_id (x:=(rd_T135 bits (i:Int)).f1) (by omega) (by omega),wrap_id (x:=(rd_T135 bits (i:Int)).f2) (by omega) (by omega),wrap_id (x:=(rd_T135 bits (i:Int)).f3) (by omega) (by omega)]
   exact hr
  ·refine⟨_,?_,fin arcs (by omega) ha⟩
   refine Ev.succ ?_;simp only[ebbtidelaw12_Read.l0]
   exact Ev.neg g (Ev.neg (by omega) (Ev.neg (by omega) (Ev.now _)))
theorem read_ev (m:Int) (hm0:0≤m) (hm:m≤100) (a0:Int) (hold:Bool) (bits:List S135) (a3 a4 a5:Int) (h:SmallOk (a0,hold,bits,a3,a4,a5)):
  ∃ r,Ev (fun k=>ebbtidelaw12_Read.f k a0 hold bits a3 a4 a5 m) r∧SmallNet m hold r:=by
 obtain⟨h0,_,⟨_,hb⟩,h3,h4,h5⟩:=h
 have h0':=u8_in h0
 simp only at h0'
 have w0:=tmod_in (x:=a0) (m:=4) h0'.1 (by omega)
 unfold ebbtidelaw12_Read.f
 rw[wrap_id (x:=a0) (by omega) (by omega),wrap_id (by omega) (by omega)]
 exact read_l0 m hm0 hm a0 hold bits a3 a4 a5 _ hb h3 h4 h5 (by omega) (by omega) m.toNat 0 [] (by omega) rfl (by simp)
end Q
namespace Q
open P
open H (endsErr Right right_of IsFlow payS worthS SpanTop fillS MaxF fillF)
theorem spanErr_of {n:Int} {l:List S74} {s t h:Int} (e:endsErr n l s t=0) (h0:0≤h) (h1:h≤1024):spanErr n l s t h=0:=by
 unfold spanErr horErr
 rw[Yx e,Yy (by omega),Yy (by omega)]
end Q
namespace Q
open P
open H (endsErr Right right_of IsFlow payS worthS SpanTop fillS MaxF fillF)
def stA (a:S74):S74:=⟨a.f0,a.f1,a.f2,0⟩
theorem pay_still: ∀ (l:List S74) (F:List Int),payS (l.map stA) F=0
 |[],_=>by cases ‹List Int› <;>rfl
 |_::_,[]=>rfl
 |a::l,x::F=>by
  show x * 0+payS (l.map stA) F=0
  rw[pay_still l F,Int.mul_zero];rfl
theorem still_net {n:Int} {l:List S74} (hn:NetOk n l):NetOk n (l.map stA):=
 ⟨hn.lo,hn.hi,by rw[List.length_map];exact hn.len,fun a ha=>by
  obtain⟨b,hb,rfl⟩:=List.mem_map.1 ha
  have h:=hn.arcs b hb
  exact⟨h.f0,h.f1,h.f2,Int.le_refl _,h.h0,h.h1,h.h2,by show (0:Int)≤1048576;decide⟩⟩
theorem still_same {n s t:Nat} {l:List S74} {h:Int} {A M:List Int} (hs:s<n) (ht:t<n) (hst:s≠t) (h0:0≤h) (hA:SpanTop (l.map stA) A n s t h) (hM:MaxF (l.map stA) M n s t):worthS (l.map stA) A s (h+1)=(h+1) * bal (l.map stA) M s:=by
 have l1:=hA.le hM.flow hs ht hst
 have l2:=H.max_top hM hs hst hA.ok.flow
 have l3:=Int.mul_le_mul_of_nonneg_left l2 (show 0≤h+1 by omega)
 unfold worthS at l1 ⊢
 rw[pay_still,pay_still] at l1
 rw[pay_still]
 omega
theorem still_l0 (N:Int) (p:Bool) (l:List S74) (s t h:Int) (hn:NetOk N l) (g:endsErr N l s t=0) (h0:0≤h) (h1:h≤7) (d:Nat): ∀ (i:Nat),i+d=l.length→
  Ev (fun k=>ebbtidelaw12_SpanStill.l0 k true s t h ((l.take i).map stA) (i:Int) N p l) true:=by
 have hl:=hn.len
 induction d with
 |zero=>
  intro i hi
  refine Ev.succ ?_;simp only[ebbtidelaw12_SpanStill.l0]
  refine Ev.neg (by omega) ?_
  rw[List.take_of_length_le (by omega)]
  refine Ev.bind (smost_ev N p (l.map stA) s t h) ?_
  refine Ev.bind (most_ev N p (l.map stA) s t) ?_
  have g2:endsErr N (l.map stA) s t=0:=endsE_of (still_net hn) (endsE_ok g).2
  obtain⟨n0,s0,t0,rfl,rfl,rfl,hs,ht,hst,hn2,hr2⟩:=ends_zero g2
  have hT:=span_top (h:=h) hr2 hs ht hst h0
  have hM:=max_fill hr2 hs ht hst
  rw[smostR_nat (spanErr_of g2 h0 (by omega)),mostR_nat g2]
  refine Ev.pos (by first|trivial|rfl) ?_
  refine Ev.pos (by first|trivial|rfl) ?_
  refine Ev.pos (by first|trivial|rfl) ?_
  refine Ev.done ?_
  obtain⟨b1,b2⟩:=bal_bd hM.flow hs ht hst
  obtain⟨c1,c2⟩:=times_bd h0 (by omega) b1 b2
  simp only[beq_iff_eq]
  rw[wrap_id (x:=h+1) (by omega) (by omega),wrap_id (by omega) (by omega)]
  exact still_same hs ht hst h0 hT hM
 |succ d ih=>
  intro i hi
  have hx:=ih (i+1) (by omega)
  have et:l.take (i+1)=l.take i ++ [rd_T74 l (i:Int)]:=by
   rw[rdArc_nat,List.take_add_one,List.getD_eq_getElem?_getD]
   have:i<l.length:=by omega
   simp[List.getElem?_eq_getElem this]
  have hlen:((l.take i).map stA).length≤200:=by
   rw[List.length_map,List.length_take]
   omega
  rw[et,List.map_append] at hx
  refine Ev.succ ?_;simp only[ebbtidelaw12_SpanStill.l0]
  refine Ev.pos (by omega) ?_
  refine Ev.pos (by omega) ?_
  refine Ev.pos (by omega) ?_
  rw[wrap_succ (n:=l.length) (by omega) (by omega)]
  exact hx
theorem spanStill_ev (a0:Int) (hold:Bool) (bits:List S135) (a3 a4 a5:Int) (hs:SmallOk (a0,hold,bits,a3,a4,a5)):Ev (fun k=>ebbtidelaw12_SpanStill.f k a0 hold bits a3 a4 a5) true:=by
 unfold ebbtidelaw12_SpanStill.f
 refine Ev.bind awake12_ev ?_
 refine Ev.pos rfl ?_
 obtain⟨⟨N,p,l,s,t,h⟩,hr,hn⟩:=read_ev 10 (by omega) (by omega) a0 hold bits a3 a4 a5 hs
 refine Ev.bind hr ?_
 have hnet:NetOk N l:=hn.net
 have hE:EndsOk N s t:=hn.ends
 have g:endsErr N l s t=0:=endsE_of hnet ⟨hE.s0,hE.sn,hE.t0,hE.tn,hE.ne⟩
 exact still_l0 N p l s t h hnet g hn.s0 hn.s1 l.length 0 (by omega)
end Q
end Go.Proofs.Ytkcpanpdipmmmaa
