/- What the law's row needs of these texts, taken out of them by wip/tool/mini.py: QQuePut P55 P56 QRepeatWalk QLeast QSeekWalk QLevelDef QFarsWalk QFillMem QDownWalk QPhaseMem QPhaseWalk QSortNil QSortRow. -/
import Derived.Test.YtkcpanpdipmmmaaMpjkfmi
import Derived.Test.YtkcpanpdipmmmaaMockagm
import Derived.Deep.RegionHeld3
import Derived.Deep.RegionLaw
import Derived.Laws.CopyOwn
import Derived.IntWalk
import Derived.Test.YtkcpanpdipmmmaaProg
import Derived.Test.YtkcpanpdipmmmaaMggjfik
import Derived.RegionTactic
import Derived.ChangeAlike
import Derived.BigRegion
import Derived.LoopTactic
import Derived.WalkKit
import Derived.WalkMore
import Derived.Deep.DeepCutAuto
import Derived.Laws.IdiomCopy
import Derived.Lib.SliceRun
set_option linter.unusedVariables false
set_option linter.unusedSimpArgs false
namespace Go.Proofs.Ytkcpanpdipmmmaa.H
open Go.RowKit Go.Proofs.YtkcpanpdipmmmaaW.PrintWords Go.Proofs.YtkcpanpdipmmmaaW.PrintLast Go.Proofs.YtkcpanpdipmmmaaW.PrintMore Go.Proofs.Ytkcpanpdipmmmaa.P
attribute [local irreducible] wpQuiet
set_option maxHeartbeats 2000000 in
set_option maxRecDepth 100000 in
theorem put_core (g b m fr sz mo j:Nat) (x:Int) (w:World) (c0:w.cell? ⟨g,0,none⟩=some (.slice (some ⟨b,0,none⟩) m m)) (c1:w.cell? ⟨g,1,none⟩=some (.int .i64 fr)) (c2:w.cell? ⟨g,2,none⟩=some (.int .i64 sz)) (c3:w.cell? ⟨g,3,none⟩=some (.int .i64 mo)) (y:Int) (cx:w.cell? ⟨b,j,none⟩=some (.int .i64 y)) (hj:(fr+sz) % m=j)
  (f2:w.frozen? ⟨g,2,none⟩=false) (fx:w.frozen? ⟨b,j,none⟩=false) (hne:g≠b) (hsm:sz<m) (hmo:sz<mo) (hm:m≤200) (hfr:fr<m) (hmo2:mo≤50):
  Calls Try.prog 165 #[.pointer (some ⟨g,0,none⟩), .int .i64 x] w fun e w'=>e= .returned (.int .i64 0)∧w'=((w.setCell ⟨b,j,none⟩ (.int .i64 x)).setCell ⟨g,2,none⟩ (.int .i64 ((sz:Int)+1))).drew.drew.drew:=by
 have hu:=Try.underlying193
 have p0:(0:Int)≤(fr:Int):=by omega
 have p1:(fr:Int)<(m:Int):=by omega
 have p2:(m:Int)≤200:=by omega
 have p3:(sz:Int)<(m:Int):=by omega
 have p4:(0:Int)≤(sz:Int):=by omega
 have p5:(sz:Int)≤50:=by omega
 have p6:(0:Int)<(m:Int):=by omega
 have hj2:((fr:Int)+(sz:Int)) % (m:Int)=(j:Int):=by rw[← hj,Int.natCast_emod];rfl
 have hj1:(j:Int)<(m:Int):=by rw[← hj];have:=Nat.mod_lt (fr+sz) (show 0<m by omega);omega
 have hj0:(0:Int)≤(j:Int):=by omega
 have e1:((sz:Int) == (mo:Int))=false:=beq_eq_false_iff_ne.2 (by omega)
 have e2:((sz:Int) == (m:Int))=false:=beq_eq_false_iff_ne.2 (by omega)
 clear hj hsm hmo hfr
 go_enter Try.func165,Try.ntmps165
 go_wp2_with fail
 go_region
 go_wp2_with fail
 go_region
 go_wp2_with fail
 go_region
 go_wp2_with fail
 go_ret
 exact⟨rfl,rfl⟩
theorem qL_put (R:List Int) (fr sz:Nat) (x:Int) (h:sz<R.length):qL (R.set ((fr+sz) % R.length) x) fr (sz+1)=qL R fr sz ++ [x]:=by
 unfold qL
 rw[List.range_succ,List.map_append,List.length_set]
 congr 1
 ·apply List.map_congr_left
  intro i hi
  have hi:=List.mem_range.1 hi
  rw[getD_set_ne]
  intro e
  have h1:(fr+sz - (fr+i)) % R.length=0:=Nat.sub_mod_eq_zero_of_mod_eq e
  rw[show fr+sz - (fr+i)=sz - i by omega,Nat.mod_eq_of_lt (by omega)] at h1
  omega
 ·rw[List.map_cons,List.map_nil,getD_set_eq _ _ _ _ (Nat.mod_lt _ (by omega))]
theorem qu_put {w:World} {g b:Nat} {R:List Int} {fr sz mo:Nat} (h:Qu w g (some ⟨b,0,none⟩) R fr sz mo) (hs:sz<R.length) (hm:sz<mo) (x:Int):
  Qu ((w.setCell ⟨b,(fr+sz) % R.length,none⟩ (.int .i64 x)).setCell ⟨g,2,none⟩ (.int .i64 ((sz:Int)+1))) g (some ⟨b,0,none⟩) (R.set ((fr+sz) % R.length) x) fr (sz+1) mo:=by
 have hne:=h.ne
 have hring:w.heap[b]? =some (.cells (nums .i64 R).toArray 3 (0,0)):=by
  rcases h.ring with ⟨h1,_⟩|⟨c,h1,h2,h3⟩
  ·cases h1
  ·cases h1;exact h3
 refine⟨?_, .inr ⟨b,rfl,by rw[List.length_set];omega,?_⟩,by rw[List.length_set];omega,?_,hm,h.mo50,by rw[List.length_set];exact h.len⟩
 ·rw[List.length_set]
  exact blk_set (blk_far h.hd (p:=⟨b,(fr+sz) % R.length,none⟩) hne _) 2 _
 ·have h1:=blk_far (blk_set hring ((fr+sz) % R.length) (.int .i64 x)) (p:=⟨g,2,none⟩) (Ne.symm hne) (.int .i64 ((sz:Int)+1))
  refine h1.trans ?_
  simp[nums,List.map_set]
 ·rcases h.frr with h1|⟨_,h1⟩
  ·exact .inl (by rw[List.length_set];exact h1)
  ·rw[h1] at hs;exact absurd hs (by simp)
theorem que_put_room (g b:Nat) (R:List Int) (fr sz mo:Nat) (x:Int) (w:World) (h:Qu w g (some ⟨b,0,none⟩) R fr sz mo) (hs:sz<R.length) (hm:sz<mo):
  Calls Try.prog 165 #[.pointer (some ⟨g,0,none⟩), .int .i64 x] w fun e w'=>e= .returned (.int .i64 0)∧ ∃ R',Qu w' g (some ⟨b,0,none⟩) R' fr (sz+1) mo∧qL R' fr (sz+1)=qL R fr sz ++ [x]∧Ks (fun k=>k=g∨k=b) w w':=by
 have hring:w.heap[b]? =some (.cells (nums .i64 R).toArray 3 (0,0)):=by
  rcases h.ring with ⟨h1,_⟩|⟨c,h1,h2,h3⟩
  ·cases h1
  ·cases h1;exact h3
 have hfr:fr<R.length:=by
  rcases h.frr with h1|⟨_,h1⟩
  ·exact h1
  ·rw[h1] at hs;exact absurd hs (by simp)
 have hj:=Nat.mod_lt (fr+sz) (show 0<R.length by omega)
 have h50:=h.mo50
 have hl:=h.len
 refine(put_core g b R.length fr sz mo ((fr+sz) % R.length) x w ((blk_cell h.hd 0).trans rfl) ((blk_cell h.hd 1).trans rfl) ((blk_cell h.hd 2).trans rfl) ((blk_cell h.hd 3).trans rfl) _ ((blk_cell hring _).trans (nums_get R _ hj)) rfl (blk_frozen h.hd 2) (blk_frozen hring _) h.ne hs hm (by omega) hfr h50).mono ?_
 rintro e w' ⟨rfl,rfl⟩
 exact⟨rfl,_,(qu_put h hs hm x).below (below_drew (below_drew (below_drew (Below.refl _ _)))),qL_put R fr sz x hs,(((Ks.refl (fun k=>k=g∨k=b) w).set (g:=b) (fun _=> .inr rfl) _ _).set (g:=g) (fun _=> .inl rfl) _ _).below (below_drew (below_drew (below_drew (Below.refl _ _))))⟩
theorem que_grow_ (g:Nat) (A:Option Addr) (R:List Int) (fr m mo:Nat) (w:World) (hm:R.length=m) (h:Qu w g A R fr m mo):
  Calls Try.prog 173 #[.pointer (some ⟨g,0,none⟩)] w fun e w'=>e= .returned (.tuple #[])∧ ∃ R',R'.length=2 * m+4∧Qu w' g (some ⟨w.heap.size,0,none⟩) R' 0 m mo∧qL R' 0 m=qL R fr m∧Ks (fun k=>k=g) w w':=by
 subst hm
 exact que_grow g A R fr mo w h
set_option maxHeartbeats 2000000 in
set_option maxRecDepth 100000 in
theorem que_put_grow (g:Nat) (A:Option Addr) (R:List Int) (fr mo:Nat) (x:Int) (w:World) (h:Qu w g A R fr R.length mo) (hm:R.length<mo):
  Calls Try.prog 165 #[.pointer (some ⟨g,0,none⟩), .int .i64 x] w fun e w'=>e= .returned (.int .i64 0)∧ ∃ b R',w.heap.size≤b∧Qu w' g (some ⟨b,0,none⟩) R' 0 (R.length+1) mo∧qL R' 0 (R.length+1)=qL R fr R.length ++ [x]∧Ks (fun k=>k=g) w w':=by
 have hu:=Try.underlying193
 have H:=Aside0.mk h
 have h50:=h.mo50
 have c0:w.cell? ⟨g,0,none⟩=some (.slice A R.length R.length):=(blk_cell h.hd 0).trans rfl
 have c2:w.cell? ⟨g,2,none⟩=some (.int .i64 R.length):=(blk_cell h.hd 2).trans rfl
 have c3:w.cell? ⟨g,3,none⟩=some (.int .i64 mo):=(blk_cell h.hd 3).trans rfl
 generalize hml:R.length=m at *
 have HML:=Aside0.mk hml
 clear hml h
 have p4:(0:Int)≤(m:Int):=by omega
 have p5:(m:Int)≤50:=by omega
 have e1:((m:Int) == (mo:Int))=false:=beq_eq_false_iff_ne.2 (by omega)
 go_enter Try.func165,Try.ntmps165
 go_wp2_with fail
 go_region
 go_wp2_with fail
 go_region
 go_wp2_with fail
 clear c0 c2 c3
 go_wp2_with (first|(go_at_call 173;refine(que_grow_ g A R fr m mo _ HML.out (H.out.below (below_drew (below_drew (Below.refl _ _))))).mono ?_;rintro e_ w3 ⟨rfl,R',hl',hq,hql,hk⟩;obtain⟨b,hbe⟩: ∃ b_,b_=w.heap.size:=⟨_,rfl⟩;(have hq:Qu w3 g (some ⟨b,0,none⟩) R' 0 m mo:=by(rw[hbe];exact hq));have HBE:=Aside0.mk hbe;clear hbe;have HQ:=Aside0.mk hq;have HQL:=Aside0.mk hql;have HK:=Aside0.mk hk;clear hq hql hk;obtain⟨M,hM⟩: ∃ M_,M_=R'.length:=⟨_,rfl⟩;have c0:w3.cell? ⟨g,0,none⟩=some (.slice (some ⟨b,0,none⟩) M M):=by(rw[hM];exact(blk_cell HQ.out.hd 0).trans rfl))|fail)
 have hm1:m<M:=by omega
 have hm2:M≤104:=by omega
 have hring:w3.heap[b]? =some (.cells (nums .i64 R').toArray 3 (0,0)):=by
  rcases HQ.out.ring with ⟨h1,_⟩|⟨c,h1,h2,h3⟩
  ·cases h1
  ·cases h1;exact h3
 have hne:=HQ.out.ne
 have c1:w3.cell? ⟨g,1,none⟩=some (.int .i64 0):=(blk_cell HQ.out.hd 1).trans rfl
 have c2:w3.cell? ⟨g,2,none⟩=some (.int .i64 m):=(blk_cell HQ.out.hd 2).trans rfl
 have cx:w3.cell? ⟨b,m,none⟩=some (.int .i64 (R'.getD m 0)):=(blk_cell hring _).trans (nums_get R' _ (by omega))
 have fx:w3.frozen? ⟨b,m,none⟩=false:=blk_frozen hring _
 have f2:=blk_frozen HQ.out.hd 2
 generalize R'.getD m 0=yy at cx
 have HM:=Aside0.mk hM
 have HL:=Aside0.mk hl'
 clear hM hl' hring
 have q0:(0:Int)<(M:Int):=by omega
 have q1:(m:Int)<(M:Int):=by omega
 have q2:(M:Int)≤104:=by omega
 have hj2:(m:Int) % (M:Int)=(m:Int):=Int.emod_eq_of_lt p4 q1
 go_wp2_with fail
 go_region
 go_wp2_with fail
 go_ret
 have hmod:(0+m) % R'.length=m:=by rw[← HM.out,Nat.zero_add,Nat.mod_eq_of_lt hm1]
 have h1:=qu_put HQ.out (by rw[← HM.out];exact hm1) hm x
 have h2:=qL_put R' 0 m x (by rw[← HM.out];exact hm1)
 rw[hmod] at h1 h2
 refine⟨rfl,b,R'.set m x,by rw[HBE.out];exact Nat.le_refl _,?_,?_,?_⟩
 ·exact h1.below (below_drew (Below.refl _ _))
 ·exact h2.trans (by rw[HQL.out])
 ·have hk:Ks (fun k=>k=g) w w3:=HK.out.trans' (below_drew (below_drew (Below.refl _ _)))
  exact(((hk.set (g:=b) (fun hlt=>absurd hlt (by rw[HBE.out];exact Nat.lt_irrefl _)) _ _).set (g:=g) (fun _=>rfl) _ _)).below (below_drew (Below.refl _ _))
theorem que_new (mo:Nat) (w:World) (h50:mo≤50):
  Calls Try.prog 164 #[.int .i64 (mo:Int)] w fun e w'=> ∃ g,e= .returned (.tuple #[.pointer (some ⟨g,0,none⟩), .int .i64 0])∧w.heap.size≤g∧Qu w' g none [] 0 0 mo∧Below w.heap.size w w':=by
 have hrm:pile_room.f (mo:Int)=some true:=by
  unfold pile_room.f
  rw[if_pos (by omega)]
  simp
  omega
 have HRM:=Aside0.mk hrm
 clear hrm
 have hu:=Try.underlying193
 go_enter Try.func164,Try.ntmps164
 go_wp2_with (first|(go_at_call 172;refine(pile_room.calls (mo:Int) true _ HRM.out).mono ?_;rintro e_ w1 ⟨rfl,hd⟩;have HD:=Aside0.mk hd.below;clear hd)|fail)
 go_ret2
 have hw:=heap_alloc_new w1 (.cells #[.slice none 0 0, .int .i64 0, .int .i64 0, .int .i64 mo] 193)
 exact⟨w1.heap.size,rfl,HD.out.size,⟨hw, .inl ⟨rfl,rfl⟩,Nat.le_refl _, .inr ⟨rfl,rfl⟩,Nat.zero_le _,h50,Nat.zero_le _⟩,below_alloc HD.out _⟩
theorem que_put (g:Nat) (A:Option Addr) (R:List Int) (fr sz mo:Nat) (x:Int) (w:World) (h:Qu w g A R fr sz mo) (hm:sz<mo):
  Calls Try.prog 165 #[.pointer (some ⟨g,0,none⟩), .int .i64 x] w fun e w'=>e= .returned (.int .i64 0)∧ ∃ (A':Option Addr) (R':List Int) (fr':Nat),Qu w' g A' R' fr' (sz+1) mo∧qL R' fr' (sz+1)=qL R fr sz ++ [x]∧Ks (quS g A) w w'∧ ∀ k,quS g A' k→quS g A k∨w.heap.size≤k:=by
 by_cases hs:sz<R.length
 ·rcases h.ring with ⟨_,h1⟩|⟨b,rfl,_,_⟩
  ·rw[h1] at hs;exact absurd hs (by simp)
  ·refine(que_put_room g b R fr sz mo x w h hs hm).mono ?_
   rintro e w' ⟨rfl,R',h1,h2,h3⟩
   exact⟨rfl,_,R',fr,h1,h2,h3.mono (fun k hk _=>hk.elim .inl (fun h=> .inr ⟨_,rfl,h⟩)),fun k hk=> .inl hk⟩
 ·have e:sz=R.length:=by have:=h.szr;omega
  subst e
  refine(que_put_grow g A R fr mo x w h hm).mono ?_
  rintro e w' ⟨rfl,b,R',h1,h2,h3,h4⟩
  refine⟨rfl,_,R',0,h2,h3,h4.mono (fun k hk _=> .inl hk),fun k hk=> ?_⟩
  rcases hk with rfl|⟨a,ha,rfl⟩
  ·exact .inl (.inl rfl)
  ·cases ha;exact .inr h1
end Go.Proofs.Ytkcpanpdipmmmaa.H
namespace Go.Proofs.Ytkcpanpdipmmmaa.P
open Go.RowKit Go.Proofs.YtkcpanpdipmmmaaW.PrintWords Go.Proofs.YtkcpanpdipmmmaaW.PrintLast Go.Proofs.YtkcpanpdipmmmaaW.PrintMore
attribute [local go_sem] max2_int min2_int max_two min_two max_three min_three max_four min_four
def bits_Mul64.f (a0:Int) (a1:Int):Option (Int × Int):=some (IntKind.u64.wrap ((IntKind.u64.wrap ((IntKind.u64.wrap ((a0 / 4294967296) * (a1 / 4294967296)))+((IntKind.u64.wrap ((IntKind.u64.wrap ((a0 / 4294967296) * (Go.bits .and .u64 a1 4294967295)))+((IntKind.u64.wrap ((Go.bits .and .u64 a0 4294967295) * (Go.bits .and .u64 a1 4294967295))) / 4294967296))) / 4294967296)))+((IntKind.u64.wrap ((Go.bits .and .u64 (IntKind.u64.wrap ((IntKind.u64.wrap ((a0 / 4294967296) * (Go.bits .and .u64 a1 4294967295)))+((IntKind.u64.wrap ((Go.bits .and .u64 a0 4294967295) * (Go.bits .and .u64 a1 4294967295))) / 4294967296))) 4294967295)+(IntKind.u64.wrap ((Go.bits .and .u64 a0 4294967295) * (a1 / 4294967296))))) / 4294967296)),IntKind.u64.wrap (a0 * a1))
set_option maxHeartbeats 8000000 in
set_option maxRecDepth 100000 in
theorem bits_Mul64.calls (a0:Int) (a1:Int) (r1:Int) (r2:Int) (w:World) (h:bits_Mul64.f a0 a1=some (r1,r2)):
  Calls Try.prog 177 #[.int .u64 a0, .int .u64 a1] w fun e w'=>e= .returned (.tuple #[.int .u64 r1, .int .u64 r2])∧Drawn0 w w':=by
 have H:(some (IntKind.u64.wrap ((IntKind.u64.wrap ((IntKind.u64.wrap ((a0 / 4294967296) * (a1 / 4294967296)))+((IntKind.u64.wrap ((IntKind.u64.wrap ((a0 / 4294967296) * (Go.bits .and .u64 a1 4294967295)))+((IntKind.u64.wrap ((Go.bits .and .u64 a0 4294967295) * (Go.bits .and .u64 a1 4294967295))) / 4294967296))) / 4294967296)))+((IntKind.u64.wrap ((Go.bits .and .u64 (IntKind.u64.wrap ((IntKind.u64.wrap ((a0 / 4294967296) * (Go.bits .and .u64 a1 4294967295)))+((IntKind.u64.wrap ((Go.bits .and .u64 a0 4294967295) * (Go.bits .and .u64 a1 4294967295))) / 4294967296))) 4294967295)+(IntKind.u64.wrap ((Go.bits .and .u64 a0 4294967295) * (a1 / 4294967296))))) / 4294967296)),IntKind.u64.wrap (a0 * a1)))=some (r1,r2):=h
 clear h
 simp only[Option.some.injEq,Prod.mk.injEq] at H
 obtain⟨rfl,rfl⟩:=H
 go_enter Try.func177,Try.ntmps177
 go_wp2
 go_ret2
 exact⟨by first|rfl|(simp;done)|(simp[*];done),by repeat(first|exact Drawn0.refl _|apply Drawn0.step)⟩
end Go.Proofs.Ytkcpanpdipmmmaa.P
namespace Go.Proofs.Ytkcpanpdipmmmaa.P
open Go.RowKit Go.Proofs.YtkcpanpdipmmmaaW.PrintWords Go.Proofs.YtkcpanpdipmmmaaW.PrintLast Go.Proofs.YtkcpanpdipmmmaaW.PrintMore
attribute [local go_sem] max2_int min2_int max_two min_two max_three min_three max_four min_four
def bits_Mul.f (a0:Int) (a1:Int):Option (Int × Int):=(bits_Mul64.f a0 a1).bind fun bt438=>(some (bt438.1,bt438.2))
set_option maxHeartbeats 8000000 in
set_option maxRecDepth 100000 in
theorem bits_Mul.calls (a0:Int) (a1:Int) (r1:Int) (r2:Int) (w:World) (h:bits_Mul.f a0 a1=some (r1,r2)):
  Calls Try.prog 171 #[.int .u64 a0, .int .u64 a1] w fun e w'=>e= .returned (.tuple #[.int .u64 r1, .int .u64 r2])∧Drawn0 w w':=by
 have H:((bits_Mul64.f a0 a1).bind fun bt438=>(some (bt438.1,bt438.2)))=some (r1,r2):=h
 clear h
 replace H:=Option.bind_eq_some_iff.mp H
 obtain⟨⟨t438,t439⟩,A30,H⟩:=H
 replace H:(some (t438,t439))=some (r1,r2):=H
 have A3:=Aside0.mk A30
 clear A30
 simp only[Option.some.injEq,Prod.mk.injEq] at H
 obtain⟨rfl,rfl⟩:=H
 go_enter Try.func171,Try.ntmps171
 go_wp2_with (first|((with_reducible refine gate_callee (f:=177) rfl ?_);refine goesL_ (some 25) rfl rfl Try.func177 (by kernel_rfl) rfl #[.int .u64 a0, .int .u64 a1] rfl (by(try simp only[List.map_toArray,List.map_cons,List.map_nil]);first|done|rfl|(simp only[List.length_drop,List.length_take];rfl)) ?_;(with_reducible refine(bits_Mul64.calls a0 a1 t438 t439 _ A3.out).mono ?_);rintro e w' ⟨rfl,⟨nd,rfl⟩⟩;refine⟨_,rfl,?_⟩))
 go_ret2
 exact⟨by first|rfl|(simp;done)|(simp[*];done),by repeat(first|exact Drawn0.refl _|apply Drawn0.step)⟩
end Go.Proofs.Ytkcpanpdipmmmaa.P
namespace Go.Proofs.Ytkcpanpdipmmmaa.H
open Go.RowKit Go.Proofs.YtkcpanpdipmmmaaW.PrintWords Go.Proofs.YtkcpanpdipmmmaaW.PrintLast Go.Proofs.YtkcpanpdipmmmaaW.PrintMore Go.Proofs.Ytkcpanpdipmmmaa.P
attribute [local irreducible] wpQuiet
theorem mul_small: ∀ n:Nat,n<51→bits_Mul.f 1 (n:Int)=some (0,(n:Int)):=by decide +kernel
theorem info3s:(Try.prog.info? 3).map (·.size)=some 1:=by kernel_rfl
def repAt (x:Int) (n k:Nat):List Value:=nums .i64 (List.replicate k x ++ List.replicate (n - k) 0)
theorem repAt_len (x:Int) (n k:Nat) (h:k≤n):(repAt x n k).length=n:=by simp[repAt,nums];omega
theorem made_rep (x:Int) (n:Nat) (hn:n≤50): ∀ W:World,(Instr.makeSlice 25 (.int .i64 (n:Int)) (.int .i64 (n:Int))).run Try.prog W= .ok (.slice (some ⟨W.heap.size,0,none⟩) n n) (W.alloc (.cells (repAt x n 0).toArray 3)):=by
 intro W
 rw[print_make 25 3 .i64 8 Try.underlying25 (by kernel_rfl) (by omega) n (by omega) W]
 have hl:(madeCells #[Value.int .i64 0] n)=(repAt x n 0).toArray:=by
  apply Array.ext'
  apply List.ext_getElem
  ·simp[repAt,nums,madeCells]
  ·intro i h1 h2
   simp[repAt,nums,madeCells,Nat.mod_one]
 rw[hl]
theorem repAt_splice (x:Int) (n k m:Nat) (hk:k+m≤n):splice (repAt x n k) k (nums .i64 (List.replicate m x))=repAt x n (k+m):=by
 unfold repAt nums
 simp only[List.map_append,List.map_replicate]
 unfold splice
 rw[List.take_append_of_le_length (by simp),List.take_of_length_le (by simp),List.drop_append,List.drop_eq_nil_of_le (by simp),List.nil_append, ← List.append_assoc,List.replicate_append_replicate]
 simp
 omega
theorem nums_one (L:List Int): ∀ v,v∈nums .i64 L→v.oneCell'=true:=by
 intro v hv
 obtain⟨_,_,rfl⟩:=List.mem_map.1 hv
 rfl
theorem one_cell {W:World} {b:Nat} {u:Value} (hc:W.cell? ⟨b,0,none⟩=some u): ∀ (j:Nat) (v:Value),[u][j]? =some v→W.cell? ((⟨b,0,none⟩:Addr).add j)=some v:=by
 intro j v hv
 cases j with
 |zero=>rw[add_plain];injection hv with hv;rw[← hv];exact hc
 |succ j=>cases hv
set_option maxHeartbeats 2000000 in
set_option maxRecDepth 100000 in
theorem repeat_core (b c n:Nat) (x:Int) (w:World) (hb:w.cell? ⟨b,0,none⟩=some (.int .i64 x)) (hn0:0<n) (hn:n≤50):
  Calls Try.prog 163 #[.slice (some ⟨b,0,none⟩) 1 1, .int .i64 (n:Int)] w fun e w'=>e= .returned (.slice (some ⟨w.heap.size,0,none⟩) n n)∧w'.heap[w.heap.size]? =some (.cells (nums .i64 (List.replicate n x)).toArray 3 (0,0))∧Below w.heap.size w w':=by
 have hmul:=mul_small n (by omega)
 have HM:=Aside0.mk hmul
 clear hmul
 have hmk:=made_rep x n hn
 have hbl:=World.block_lt_of_cell? w _ hb
 have HBC:=Aside0.mk hb
 have q1:(n:Int)≤50:=by omega
 have q2:(0:Int)<(n:Int):=by omega
 have e1:decide ((n:Int)<0)=false:=decide_eq_false (by omega)
 go_enter Try.func163,Try.ntmps163
 go_wp2_with (first|(go_at_call 171;refine(bits_Mul.calls 1 (n:Int) 0 (n:Int) _ HM.out).mono ?_;rintro e_ w1 ⟨rfl,hd⟩;obtain⟨nq,hnq⟩:=hd.out;subst hnq)|((with_reducible refine wpList_copy_splice rfl (.tmp 31) (.tmp 32) 25 25 rfl 3 Try.underlying25 info3s (some ⟨w.heap.size,0,none⟩) (some ⟨b,0,none⟩) n n 1 1 rfl rfl w.heap.size 0 (repAt x n 0) 3 (heap_alloc_new _ _) [.int .i64 x] ?cn (fun _=>⟨rfl,⟨b,0,none⟩,rfl,?cc⟩) ?cf ?c1 w.heap.size w ?cb (Nat.le_refl _) ?_);(case cn=>(show 1=min 1 n;omega));(case cc=>exact one_cell (pw_cell_below (below_alloc (pw_below_drewN (Below.refl _ _) nq) _) HBC.out));(case cf=>(rw[repAt_len x n 0 (Nat.zero_le _)];show 0+1≤n;omega));(case c1=>simp[Value.oneCell']);(case cb=>exact below_alloc (pw_below_drewN (Below.refl _ _) nq) _);intro w2 hr hbw;have HR:=Aside0.mk (hr.trans (by rw[show ([.int .i64 x]:List Value)=nums .i64 (List.replicate 1 x) from rfl,repAt_splice x n 0 1 (by omega)]));have HB:=Aside0.mk hbw;clear hr hbw)|fail)
 clear hmk
 go_loopw [8] (fun v8 w'=> ∃ k:Nat,0<k∧k≤n∧v8= .int .i64 k∧Aside0 (w'.heap[w.heap.size]? =some (.cells (repAt x n k).toArray 3 (0,0)))∧Aside0 (Below w.heap.size w w')) (fun v8 _=>n - (intOf v8).toNat)
 case atStart=>exact⟨1,by omega,by omega,rfl,HR,HB⟩
 case round=>
  clear HR HB
  obtain⟨k,hk0,hk,rfl,HR,HB⟩:=hrel
  by_cases hlt:k<n
  ·have e2:decide ((k:Int)<(n:Int))=true:=decide_eq_true (by omega)
   have r0:(0:Int)≤(k:Int):=by omega
   have r1:(k:Int)≤(n:Int):=by omega
   have r2:(k:Int)<(n:Int):=by omega
   have r3: ¬ n=k:=by omega
   obtain⟨m,hm⟩: ∃ m_,m_=min k (n - k):=⟨_,rfl⟩
   have hm1:k+m≤n:=by omega
   have hm2:0<m:=by omega
   have hm3:m≤k:=by omega
   have hsrc: ∀ (W:World),W.heap=wr.heap→ ∀ (j:Nat) (v:Value),(nums .i64 (List.replicate m x))[j]? =some v→W.cell? ((⟨w.heap.size,0,none⟩:Addr).add j)=some v:=by
    intro W hW j v hv
    rw[add_plain,World.cell?_of_block (w:=wr) (by rw[hW]),blk_cell HR.out j]
    have hj:j<m:=by have:=(List.getElem?_eq_some_iff.1 hv).1;simpa [nums] using this
    rw[← hv]
    simp only[repAt,nums,List.map_append,List.map_replicate,List.getElem?_toArray]
    rw[List.getElem?_append_left (by simp;omega),List.getElem?_replicate,List.getElem?_replicate,if_pos (by omega),if_pos hj]
   have HS:=Aside0.mk hsrc
   have HM2:Aside0 ((nums .i64 (List.replicate m x)).length=Nat.min k (n - k)):=⟨by rw[nums_length,List.length_replicate];exact hm⟩
   have HFT:Aside0 (k+(nums .i64 (List.replicate m x)).length≤(repAt x n k).length):=⟨by rw[repAt_len x n k hk,nums_length,List.length_replicate];exact hm1⟩
   clear hsrc hm
   have hwr:IntKind.i64.wrap ((k:Int)+(m:Int))=(k:Int)+(m:Int):=IntWalk.i64_in _ (by omega)
   go_wp2_with fail
   go_region_held3 (fun w'=>True) (trivial)
    ((refine step_copy_splice rfl _ _ 25 25 (by rfl) 3 Try.underlying25 info3s (some ⟨w.heap.size,k,none⟩) (some ⟨w.heap.size,0,none⟩) (n - k) (n - k) k n (by rfl) (by rfl) w.heap.size k (repAt x n k) 3 HR.out _ HM2.out (fun _=>⟨rfl,⟨w.heap.size,0,none⟩,rfl,HS.out _ (by rfl)⟩) HFT.out (nums_one _) w.heap.size w (below_drew HB.out) (Nat.le_refl _) ?_;intro w9 hr9 hb9))
   have HR9:Aside0 (w9.heap[w.heap.size]? =some (.cells (repAt x n (k+m)).toArray 3 (0,0))):=⟨by rw[← repAt_splice x n k m hm1];exact hr9⟩
   have HB9:=Aside0.mk hb9
   rw[nums_length,List.length_replicate,hwr]
   clear hr9 hb9 hwr HM2 HFT HS
   go_wp2_with fail
   go_roundw
   case rel=>exact⟨k+m,by omega,hm1,by go_num,HR9,HB9⟩
   case measure=>simp[intOf];omega
  ·have ek:k=n:=by omega
   subst ek
   have e2:decide ((k:Int)<(k:Int))=false:=decide_eq_false (by omega)
   go_wp2_with fail
   go_ret
   exact⟨rfl,HR.out.trans (by simp[repAt]),HB.out⟩
end Go.Proofs.Ytkcpanpdipmmmaa.H
namespace Go.Proofs.Ytkcpanpdipmmmaa.H
theorem exists_least {P:Nat→Prop} : ∀ m,P m→ ∃ n,P n∧ ∀ k,P k→n≤k:=by
 intro m
 induction m using Nat.strongRecOn with
 |_ m ih=>
  intro hm
  by_cases h: ∃ k,k<m∧P k
  ·obtain⟨k,hk,hp⟩:=h
   exact ih k hk hp
  ·exact⟨m,hm,fun k hk=>Nat.le_of_not_lt fun hl=>h ⟨k,hl,hk⟩⟩
open Classical in
noncomputable def least (P:Nat→Prop):Nat:=if h: ∃ n,P n∧ ∀ k,P k→n≤k then Classical.choose h else 0
theorem least_both {P:Nat→Prop} (h: ∃ m,P m):P (least P)∧ ∀ k,P k→least P≤k:=by
 obtain⟨m,hm⟩:=h
 unfold least
 rw[dif_pos (exists_least m hm)]
 exact Classical.choose_spec (exists_least m hm)
theorem least_spec {P:Nat→Prop} (h: ∃ m,P m):P (least P):=(least_both h).1
theorem least_le {P:Nat→Prop} {m:Nat} (h:P m):least P≤m:=(least_both ⟨m,h⟩).2 m h
theorem least_lt {P Q:Nat→Prop} {m:Nat} (h:Q m) (hm:m<least P):least Q<least P:=Nat.lt_of_le_of_lt (least_le h) hm
end Go.Proofs.Ytkcpanpdipmmmaa.H
namespace Go.Proofs.Ytkcpanpdipmmmaa.H
open Go.RowKit Go.Proofs.YtkcpanpdipmmmaaW.PrintWords Go.Proofs.YtkcpanpdipmmmaaW.PrintLast Go.Proofs.YtkcpanpdipmmmaaW.PrintMore Go.Proofs.Ytkcpanpdipmmmaa.P
attribute [local irreducible] wpQuiet
def stz (n:Nat):List Value:=stC (List.replicate n z38)
theorem made_steps (n:Nat) (hn:n≤50): ∀ W:World,(Instr.makeSlice 34 (.int .i64 (n:Int)) (.int .i64 (n:Int))).run Try.prog W= .ok (.slice (some ⟨W.heap.size,0,none⟩) n n) (W.alloc (.cells (stz n).toArray 38)):=by
 intro W
 obtain⟨i0,hi,hzz⟩:=Option.map_eq_some_iff.1 info38
 simp only[Prod.mk.injEq] at hzz
 obtain⟨hz0,hz1,hz2⟩:=hzz
 have hr:=run_make (P:=Try.prog) W 34 38 i0 _ Try.underlying34 hi hz0 .i64 .i64 (n:Int) (n:Int) (by omega) (by omega) (by rw[hz2];omega) (by omega)
 rw[hz1] at hr
 simp only[Int.toNat_natCast] at hr
 have hl:(madeCells (Value.agg #[.int .i64 0, .bool false]).cells (n * 2))=(stz n).toArray:=by
  apply Array.ext'
  apply List.ext_getElem?
  intro i
  unfold stz
  by_cases h:i<n * 2
  ·have h2:=stC_get z38 (List.replicate n z38) (i / 2) (by simp;omega)
   have hg:(List.replicate n z38).getD (i / 2) z38=z38:=by
    rw[List.getD_eq_getElem?_getD,List.getElem?_replicate,if_pos (by omega)];rfl
   rw[hg] at h2
   rcases Nat.mod_two_eq_zero_or_one i with hm|hm
   ·rw[show i / 2 * 2=i by omega] at h2
    show _=(stC _)[i]?
    rw[h2.1]
    simp[madeCells,Value.cells,h,hm,z38]
   ·rw[show i / 2 * 2+1=i by omega] at h2
    show _=(stC _)[i]?
    rw[h2.2]
    simp[madeCells,Value.cells,h,hm,z38]
  ·rw[List.getElem?_eq_none (by simp[size_madeCells];omega),List.getElem?_eq_none (by simp[stC_len];omega)]
 rw[← hl]
 exact hr
structure Sm (n0:Nat) (a0_1:Bool) (A2:Option Addr) (c2:Nat) (l:List S74) (A3:Option Addr) (c3:Nat) (F:List Int) (A4:Option Addr) (c4:Nat) (g3 gd gb gq:Nat) (w:World) (st:List (Fd S38)) (i:Nat) (w':World):Prop where
 D:IsI w' gd (dOf n0 st)
 B:IsS w' gb (bOf z38 n0 st)
 b3:w'.heap[g3]? =some (.cells #[.int .i64 n0, .bool a0_1, .slice A2 l.length c2, .slice A3 F.length c3, .slice A4 n0 c4] 118 (0,0))
 que: ∃ (A:Option Addr) (R:List Int) (fr:Nat),Qu w' gq A R fr (st.length - i) n0∧qL R fr (st.length - i)=qOf st i∧ ∀ k,quS gq A k→w.heap.size≤k∧k≠gd∧k≠gb∧k≠g3
 below:Below w.heap.size w w'
theorem Sm.step {n0:Nat} {a0_1:Bool} {A2:Option Addr} {c2:Nat} {l:List S74} {A3:Option Addr} {c3:Nat} {F:List Int} {A4:Option Addr} {c4:Nat} {g3 gd gb gq:Nat} {w:World} {st:List (Fd S38)} {i:Nat} {w1 w2:World}
  (h:Sm n0 a0_1 A2 c2 l A3 c3 F A4 c4 g3 gd gb gq w st i w1) (hb:Below w1.heap.size w1 w2):Sm n0 a0_1 A2 c2 l A3 c3 F A4 c4 g3 gd gb gq w st i w2:=by
 obtain⟨A,R,fr,h1,h2,h3⟩:=h.que
 exact⟨h.D.below hb,h.B.below hb,blk_below h.b3 hb,⟨A,R,fr,h1.below hb,h2,h3⟩,below_step h.below hb⟩
def seekW (w:World) (gd gb u:Nat) (a:Int) (e:S38):World:=(((w.setCell ⟨gd,u,none⟩ (.int .i64 a)).setCell ⟨gb,u * 2,none⟩ (.int .i64 e.f0)).setCell ⟨gb,u * 2+1,none⟩ (.bool e.f1)).drew
theorem seek_far (w:World) {gd gb g:Nat} (u:Nat) (a:Int) (e:S38) (h1:g≠gd) (h2:g≠gb):(seekW w gd gb u a e).heap[g]? =w.heap[g]? :=
 (Below.heap_setCell _ ⟨gb,u * 2+1,none⟩ _ g h2).trans ((Below.heap_setCell _ ⟨gb,u * 2,none⟩ _ g h2).trans (Below.heap_setCell _ ⟨gd,u,none⟩ _ g h1))
theorem seek_D {w:World} {gd gb:Nat} {D:List Int} (h:IsI w gd D) (hne:gd≠gb) (u:Nat) (a:Int) (e:S38):IsI (seekW w gd gb u a e) gd (D.set u a):=
 IsI.below ((((h.put u a).far (p:=⟨gb,u * 2,none⟩) hne _)).far (p:=⟨gb,u * 2+1,none⟩) hne _) (below_drew (Below.refl _ _))
theorem seek_B {w:World} {gd gb:Nat} {B:List S38} (h:IsS w gb B) (hne:gd≠gb) (u:Nat) (a:Int) (e:S38):IsS (seekW w gd gb u a e) gb (B.set u e):=
 IsS.below ((h.far (p:=⟨gd,u,none⟩) (Ne.symm hne) _).put u e) (below_drew (Below.refl _ _))
def SR (n0:Nat) (a0_1:Bool) (A2:Option Addr) (c2:Nat) (l:List S74) (A3:Option Addr) (c3:Nat) (F:List Int) (A4:Option Addr) (c4:Nat) (g3 gd gb gq s:Nat) (t:Int) (w w':World) (m:Nat):Prop:=
 ∃ (st:List (Fd S38)) (i:Nat),m=n0 - i∧Lp l F n0 s t st i∧Sm n0 a0_1 A2 c2 l A3 c3 F A4 c4 g3 gd gb gq w st i w'
set_option maxHeartbeats 2000000 in
set_option maxRecDepth 100000 in
theorem seek_calls (n0:Nat) (a0_1:Bool) (A2:Option Addr) (c2:Nat) (l:List S74) (A3:Option Addr) (c3:Nat) (F:List Int) (A4:Option Addr) (c4:Nat) (s:Nat) (t:Int) (w:World)
  (hR:Right l F n0) (hs:s<n0) (hts:t≠s) (hc2:l.length≤c2) (hc3:F.length≤c3) (h2:Kd.C k74 w A2 l.length l) (h3:Kd.C (Kd.int .i64) w A3 F.length F) (h4:(Kd.slice 38 k38).C w A4 n0 (rowsAt l n0 n0)):
  Calls Try.prog 145 #[.agg #[.int .i64 n0, .bool a0_1, .slice A2 l.length c2, .slice A3 F.length c3, .slice A4 n0 c4], .int .i64 (s:Int), .int .i64 t] w fun e w'=> ∃ (gd gb:Nat) (st:List (Fd S38)),e= .returned (.tuple #[.slice (some ⟨gd,0,none⟩) n0 n0, .slice (some ⟨gb,0,none⟩) n0 n0])∧w.heap.size≤gd∧w.heap.size≤gb∧gd≠gb∧IsI w' gd (dOf n0 st)∧IsS w' gb (bOf z38 n0 st)∧Below w.heap.size w w'∧Seen l F n0 s t st:=by
 have hu24:=Try.underlying24
 have hu115:=Try.underlying115
 have hu118:=Try.underlying118
 have HR:=Aside0.mk hR
 have HC2:=Aside0.mk hc2
 have HC3:=Aside0.mk hc3
 have H2:=Aside0.mk h2
 have H3:=Aside0.mk h3
 have H4:=Aside0.mk h4
 have HTS:=Aside0.mk hts
 have hn50:n0≤50:=hR.fifty
 have hn0:0<n0:=hR.pos
 obtain⟨ad4,eA4⟩: ∃ ad,A4=some ad:=by
  obtain⟨ad,c,h_,_⟩:=Kd.C_get H4.out [] (0:Int) (by omega) (by omega)
  exact⟨ad,h_⟩
 subst eA4
 have hmk:=made_steps n0 hn50
 have HB:=Aside0.mk (Below.refl w.heap.size w)
 clear hR h2 h3 h4 hc2 hc3 hts
 go_enter Try.func145,Try.ntmps145
 go_upto_region 1 with (first|((with_reducible refine gate_dst (N:=3) rfl ?_);refine box_event ?hg (N:=3) ?hd (cs:= #[.int .i64 n0, .bool a0_1, .slice A2 l.length c2, .slice A3 F.length c3, .slice (some ad4) n0 c4]) (t:=118) ?hr ?_;(case hd=>rfl);(case hg=>rfl);(case hr=>first|(go_simp;done)|(go_simp;rfl));intro g3 hg w5 hbox hb;have n0_:=Aside0.mk (below_step HB.out hb);have B3:=Aside0.mk hbox;clear HB;have HB:=n0_;have GE3:Aside0 (w.heap.size≤g3):=⟨Nat.le_of_eq hg.symm⟩;clear n0_ hb hbox hg)|fail)
 have hc0:w5.cell? ⟨g3,0,none⟩=some (.int .i64 n0):=(blk_cell B3.out 0).trans rfl
 go_step3
 go_upto_region 1 with fail
 go_cut [6,7] (fun v6 v7 wx=> ∃ gd gb:Nat,v6= .slice (some ⟨gd,0,none⟩) n0 n0∧v7= .slice (some ⟨gb,0,none⟩) n0 n0∧Aside0 (IsI wx gd (List.replicate n0 (-1)))∧Aside0 (IsS wx gb (List.replicate n0 z38))∧Aside0 (w5.heap.size≤gd∧w5.heap.size≤gb∧gd≠gb)∧Aside0 (Below w5.heap.size w5 wx))
 case first=>
  go_region_held3 (fun w'=>w'.cell? ⟨g3,0,none⟩=some (.int .i64 n0)) (first|(exact pw_cell_below (below_drew (Below.refl _ _)) (by assumption))|(exact pw_cell_below (below_alloc (Below.refl _ _) _) (by assumption))|(exact pw_cell_below hbr (by assumption))|go_keep)
   (first|(go_at_call 163;refine(repeat_core _ 1 n0 (-1) _ (by simp[go_sem]) hn0 hn50).mono ?_;rintro e_ w6 ⟨rfl,hrep,hbr⟩))
  ·go_wp2_with fail
   go_meet
   have hbb:=below_step (below_drew (below_alloc (Below.refl w5.heap.size w5) _)) hbr
   have hsz:=hbr.size
   have e1:(w5.alloc (.cells #[.int .i64 (-1)] 3)).drew.heap.size=w5.heap.size+1:=by simp
   rw[e1] at hrep hsz
   exact⟨w5.heap.size+1,w6.heap.size,rfl,rfl,⟨IsI.below hrep (below_alloc (Below.refl _ _) _)⟩,⟨heap_alloc_new w6 _⟩,⟨Nat.le_succ _,Nat.le_of_succ_le hsz,Nat.ne_of_lt (blk_lt hrep)⟩,⟨below_alloc hbb _⟩⟩
  ·go_wp2_with fail
   go_meet
   have hbb:=below_step (below_drew (below_alloc (below_alloc (Below.refl w5.heap.size w5) _) _)) hbr
   have hsz:=hbr.size
   have e1:((w5.alloc (.cells #[.int .i64 (-1)] 3)).alloc (.cells (stz n0).toArray 38)).drew.heap.size=w5.heap.size+2:=by simp
   rw[e1] at hrep hsz
   have hst:IsS w6 (w5.heap.size+1) (List.replicate n0 z38):=by
    refine IsS.below (w:=((w5.alloc (.cells #[.int .i64 (-1)] 3)).alloc (.cells (stz n0).toArray 38)).drew) ?_ hbr
    have h_:=heap_alloc_new (w5.alloc (.cells #[.int .i64 (-1)] 3)) (.cells (stz n0).toArray 38)
    have e2:(w5.alloc (.cells #[.int .i64 (-1)] 3)).heap.size=w5.heap.size+1:=by simp
    rw[e2] at h_
    exact h_
   exact⟨w5.heap.size+2,w5.heap.size+1,rfl,rfl,⟨hrep⟩,⟨hst⟩,⟨by omega,by omega,by omega⟩,⟨hbb⟩⟩
  ·go_wp2_with fail
   go_meet
   have hbb:=below_step (below_drew (below_alloc (below_alloc (Below.refl w5.heap.size w5) _) _)) hbr
   have hsz:=hbr.size
   have e1:((w5.alloc (.cells (stz n0).toArray 38)).alloc (.cells #[.int .i64 (-1)] 3)).drew.heap.size=w5.heap.size+2:=by simp
   rw[e1] at hrep hsz
   have hst:IsS w6 w5.heap.size (List.replicate n0 z38):=by
    refine IsS.below (w:=((w5.alloc (.cells (stz n0).toArray 38)).alloc (.cells #[.int .i64 (-1)] 3)).drew) ?_ hbr
    exact IsS.below (w:=w5.alloc (.cells (stz n0).toArray 38)) (heap_alloc_new w5 _) (below_drew (below_alloc (Below.refl _ _) _))
   exact⟨w5.heap.size+2,w5.heap.size,rfl,rfl,⟨hrep⟩,⟨hst⟩,⟨by omega,by omega,by omega⟩,⟨hbb⟩⟩
 case rest=>
  obtain⟨gd,gb,rfl,rfl,HD,HS,HG,HBC⟩:=hcut
  have m0_:=Aside0.mk (below_step HB.out HBC.out)
  have m1_:=Aside0.mk (blk_below B3.out HBC.out)
  clear hmk hc0
  have GD:Aside0 (g3≠gd∧g3≠gb∧gd≠gb∧w.heap.size≤gd∧w.heap.size≤gb):=⟨by have h1:=blk_lt B3.out;have h2:=HG.out;have h3:=HB.out.size;omega⟩
  clear HB B3 HG HBC
  have HB:=m0_
  have B3:=m1_
  clear m0_ m1_
  have hd0:wc.cell? ⟨gd,s,none⟩=some (.int .i64 ((List.replicate n0 (-1:Int)).getD s 0)):=HD.out.cell (by simpa using hs)
  have hf0:=HD.out.free s
  have ps:(0:Int)≤(s:Int):=by omega
  have qs:(s:Int)<(n0:Int):=by omega
  have hc0:wc.cell? ⟨g3,0,none⟩=some (.int .i64 n0):=(blk_cell B3.out 0).trans rfl
  have hn3:g3≠gd:=GD.out.1
  go_wp2_with fail
  have m0_:Aside0 (IsI (wc.setCell ⟨gd,s,none⟩ (.int .i64 0)) gd (dOf n0 [⟨s,z38,0⟩])):=⟨by rw[dOf_one];exact HD.out.put s 0⟩
  have m1_:Aside0 (IsS (wc.setCell ⟨gd,s,none⟩ (.int .i64 0)) gb (bOf z38 n0 [⟨s,z38,0⟩])):=⟨by rw[bOf_one];exact HS.out.far (by have:=GD.out;show gb≠gd;omega) _⟩
  have m2_:Aside0 ((wc.setCell ⟨gd,s,none⟩ (.int .i64 0)).heap[g3]? =some (.cells #[.int .i64 n0, .bool a0_1, .slice A2 l.length c2, .slice A3 F.length c3, .slice (some ad4) n0 c4] 118 (0,0))):=⟨blk_far B3.out (p:=⟨gd,s,none⟩) hn3 _⟩
  have m3_:=Aside0.mk (below_set (j:=s) (v:= .int .i64 0) HB.out GD.out.2.2.2.1)
  clear HD HS B3 HB hd0 hf0 hc0 hn3
  have HD:=m0_
  have HS:=m1_
  have B3:=m2_
  have HB:=m3_
  clear m0_ m1_ m2_ m3_
  generalize wc.setCell ⟨gd,s,none⟩ (.int .i64 0)=w8 at *
  go_wp2_with (first|(go_at_call 164;refine(que_new n0 _ hn50).mono ?_;rintro e_ w9 ⟨gq,rfl,hge,hq,hbq⟩;have m0_:=Aside0.mk (HD.out.below hbq);have m1_:=Aside0.mk (HS.out.below hbq);have m2_:=Aside0.mk (blk_below B3.out hbq);have m3_:=Aside0.mk (below_step HB.out hbq);have GQ:Aside0 (w.heap.size≤gq∧gq≠gd∧gq≠gb∧gq≠g3):=⟨by have h1:=HD.out.lt;have h2:=HS.out.lt;have h3:=blk_lt B3.out;have h4:=HB.out.size;omega⟩;have HQ:=Aside0.mk hq;clear HD HS B3 HB hq hbq hge;have HD:=m0_;have HS:=m1_;have B3:=m2_;have HB:=m3_;clear m0_ m1_ m2_ m3_)|(go_at_call 165;refine(que_put_grow gq none [] 0 n0 (s:Int) _ HQ.out hn0).mono ?_;rintro e_ w10 ⟨rfl,bq,R1,hbq,hq,hql,hk⟩;have HM:Aside0 (Sm n0 a0_1 A2 c2 l A3 c3 F (some ad4) c4 g3 gd gb gq w [⟨s,z38,0⟩] 0 w10):=⟨⟨HD.out.kept hk (Ne.symm GQ.out.2.1),HS.out.kept hk (Ne.symm GQ.out.2.2.1),hk.blk B3.out (Ne.symm GQ.out.2.2.2),⟨_,R1,0,hq,hql,fun k hk2=>(by rcases hk2 with rfl|⟨a,ha,rfl⟩;exact GQ.out;cases ha;have h1:=HD.out.lt;have h2:=HS.out.lt;have h3:=blk_lt B3.out;have h4:=HB.out.size;show w.heap.size≤bq∧bq≠gd∧bq≠gb∧bq≠g3;omega)⟩,hk.toBelow HB.out HB.out.size (fun b hb=>by have:=GQ.out;omega)⟩⟩;clear HD HS B3 HB HQ hq hql hk hbq)|fail)
  go_step3
  go_wp2_with fail
  go_loopw [10] (fun v10 w'=> ∃ m,SR n0 a0_1 A2 c2 l A3 c3 F (some ad4) c4 g3 gd gb gq s t w w' m) (fun _ w'=>least (SR n0 a0_1 A2 c2 l A3 c3 F (some ad4) c4 g3 gd gb gq s t w w'))
  case atStart=>exact⟨_,_,_,rfl,lp_start hs HTS.out,HM.out⟩
  case round=>
   clear HM
   have hsp:=least_spec hrel
   obtain⟨M,hM⟩: ∃ M_,M_=least (SR n0 a0_1 A2 c2 l A3 c3 F (some ad4) c4 g3 gd gb gq s t w wr):=⟨_,rfl⟩
   rw[← hM] at hsp
   have HLE:=Aside0.mk hM
   clear hM hrel
   obtain⟨st,i,hmi,hlp,hsm⟩:=hsp
   have HMI:=Aside0.mk hmi
   have HLP:=Aside0.mk hlp
   have HSM:=Aside0.mk hsm
   clear hmi hlp hsm
   have hstn:=HLP.out.len HR.out hs
   have hile:=HLP.out.ile
   obtain⟨A,R,fr,hq,hql,hsep⟩:=HSM.out.que
   by_cases hlt:i<st.length
   ·obtain⟨x,hx⟩: ∃ x,st[i]? =some x:=⟨_,List.getElem?_eq_getElem hlt⟩
    obtain⟨k,hk⟩: ∃ k,st.length - i=k+1:=⟨st.length - i - 1,by omega⟩
    rw[hk] at hq hql
    have hk2:st.length - (i+1)=k:=by omega
    obtain⟨bq,eA⟩: ∃ b,A=some ⟨b,0,none⟩:=by
     rcases hq.ring with ⟨_,h1⟩|⟨b,h1,_⟩
     ·have:=hq.szr;rw[h1] at this;simp at this
     ·exact⟨b,h1⟩
    subst eA
    have hfr:fr<R.length:=by
     rcases hq.frr with h1|⟨_,h1⟩
     ·exact h1
     ·have:=hq.szr;rw[h1] at this;simp at this
    rw[qL_take R fr k hfr,qOf_cons hx] at hql
    injection hql with hv hql
    have hxn:x.v<n0:=fds_lt HLP.out.upto.fds (esP_to HR.out) hs _ (List.mem_map_of_mem (List.mem_of_getElem? hx))
    have HTK:=Aside0.mk (by have h_:=que_take gq bq R fr k n0 wr hq;rw[hv] at h_;exact h_)
    have HQL:=Aside0.mk hql
    have HSEP:=Aside0.mk hsep
    have HX:=Aside0.mk hx
    have HQ:=Aside0.mk hq
    have HK2:=Aside0.mk hk2
    obtain⟨ad,cv0,had,_,hKv,hcell⟩:=Kd.C_get H4.out [] (x.v:Int) (by omega) (by omega)
    cases had
    have hrow:(rowsAt l n0 n0).getD (x.v:Int).toNat []=stL l x.v l.length:=by rw[Int.toNat_natCast,List.getD_eq_getElem?_getD,rowsAt_get l n0 n0 _ hxn,if_pos hxn];rfl
    rw[hrow] at hKv
    obtain⟨Av,cv,rfl,hlv,hCv⟩:=hKv
    have hrw:=hcell 0 _ rfl
    have e0:(x.v:Int).toNat * (Kd.slice 38 k38).sz+0=x.v:=by rw[Int.toNat_natCast];show x.v * 1+0=x.v;omega
    rw[e0] at hrw
    have HCV:=Aside0.mk hCv
    have HRC:=Aside0.mk hrw
    have px:(0:Int)≤(x.v:Int):=by omega
    have qx:(x.v:Int)<(n0:Int):=by omega
    obtain⟨v,hvx⟩: ∃ v_,v_=x.v:=⟨_,rfl⟩
    have hlen4:(stL l x.v l.length).length≤400:=by have:=stL_len l x.v l.length;have:=HR.out.arcs;omega
    clear hq hql hsep hx hv hk hk2 hcell hrow hlv hCv hrw e0
    have e1:decide ((0:Int)<(k:Int)+1)=true:=decide_eq_true (by omega)
    go_wp2_with (first|(go_at_call 166;refine(que_len gq _ R fr (k+1) n0 _ HQ.out).mono ?_;rintro e_ w_ ⟨rfl,hw_⟩;subst hw_)|(go_at_call 167;refine HTK.out.mono ?_;rintro e_ w11 ⟨rfl,hq2,hk11⟩;have HM:Aside0 (Sm n0 a0_1 A2 c2 l A3 c3 F (some ad4) c4 g3 gd gb gq w st (i+1) w11):=⟨⟨HSM.out.D.kept hk11 (fun e=>(HSEP.out gq (.inl rfl)).2.1 e.symm),HSM.out.B.kept hk11 (fun e=>(HSEP.out gq (.inl rfl)).2.2.1 e.symm),hk11.blk HSM.out.b3 (fun e=>(HSEP.out gq (.inl rfl)).2.2.2 e.symm),⟨_,R,_,by rw[HK2.out];exact hq2,by rw[HK2.out];exact HQL.out,HSEP.out⟩,hk11.toBelow HSM.out.below HSM.out.below.size (fun b hb=>by have:=HSEP.out gq (.inl rfl);omega)⟩⟩;clear hq2 hk11;have hc4:w11.cell? ⟨g3,4,none⟩=some (.slice (some ad4) n0 c4):=(blk_cell HM.out.b3 4).trans rfl;have hcr:=pw_cell_below HM.out.below HRC.out)|fail)
    clear hc4 hcr HRC
    obtain⟨LN,hLN⟩: ∃ n_,n_=(stL l x.v l.length).length:=⟨_,rfl⟩
    rw[← hLN] at hlen4 ⊢
    have HLN:=Aside0.mk hLN
    clear hLN
    obtain⟨w2,hw2⟩: ∃ x_:World,x_=w11:=⟨_,rfl⟩
    subst hw2
    go_loopw [54] (fun v54 w'=> ∃ (j:Nat) (stj:List (Fd S38)),j≤LN∧v54= .int .i64 j∧Aside0 (Li l F n0 s t x (proc (toP l) (esP l F) st x) stj i j)∧Aside0 (Sm n0 a0_1 A2 c2 l A3 c3 F (some ad4) c4 g3 gd gb gq w stj (i+1) w')) (fun v54 _=>LN - (intOf v54).toNat)
    case atStart=>exact⟨0,st,Nat.zero_le _,rfl,⟨HLP.out.inner HX.out⟩,HM⟩
    case round=>
     clear HM
     obtain⟨j,stj,hj,rfl,HLI,HSJ⟩:=hrel
     by_cases hltj:j<LN
     ·have c55:decide ((j:Int)<(LN:Int))=true:=decide_eq_true (by omega)
      have pj:(0:Int)≤(j:Int):=by omega
      have qj:(j:Int)<(LN:Int):=by omega
      obtain⟨adj,eadj,hs0,hs1⟩:=at_T38 (Kd.C_below HCV.out HSJ.out.below) (j:Int) pj (by rw[← HLN.out];exact qj)
      cases eadj
      simp only[Int.toNat_natCast] at hs0 hs1
      obtain⟨e,hee⟩: ∃ e_,e_=rd_T38 (stL l x.v l.length) (j:Int):=⟨_,rfl⟩
      rw[← hee] at hs0 hs1
      have hej:(stL l x.v l.length)[j]? =some e:=by
       rw[hee]
       unfold rd_T38
       rw[Int.toNat_natCast,List.getD_eq_getElem?_getD,List.getElem?_eq_getElem (by rw[← HLN.out];exact hltj)]
       rfl
      have hso:StepOf l e:=stL_of (List.mem_of_getElem? hej)
      have HEJ:=Aside0.mk hej
      have HSO:=Aside0.mk hso
      clear hee hej hso
      obtain⟨u,hu⟩: ∃ u_:Nat,stTo l e=(u_:Int):=⟨(stTo l e).toNat,by have:=stTo_in HR.out HSO.out;omega⟩
      obtain⟨rm,hrm⟩: ∃ d_,d_=stRoom l F e:=⟨_,rfl⟩
      obtain⟨y,hy⟩: ∃ y_,y_=(dOf n0 stj).getD u 0:=⟨_,rfl⟩
      have hun:u<n0:=by have:=stTo_in HR.out HSO.out;omega
      have hup:toP l e=u:=by unfold toP;rw[hu,Int.toNat_natCast]
      have HTO:=Aside0.mk (to_f HR.out HSO.out (n0:Int) a0_1)
      have HRM:=Aside0.mk (room_f HR.out HSO.out (n0:Int) a0_1)
      rw[hu] at HTO
      rw[← hrm] at HRM
      have hrm0:0≤rm:=by rw[hrm];exact(stRoom_in HR.out HSO.out).1
      have HY:=Aside0.mk hy
      have HUP:=Aside0.mk hup
      have HRMV:=Aside0.mk hrm
      have hneg:=dOf_neg stj 0 hun
      rw[← hy] at hneg
      clear hu hrm hy hup
      have pu:(0:Int)≤(u:Int):=by omega
      have qu:(u:Int)<(n0:Int):=by omega
      by_cases hmem:u∈nodes stj
      ·have hy0: ¬ y<0:=fun h=>hneg.1 h hmem
       have ey:decide (0≤y)=true:=decide_eq_true (by omega)
       have HNX:Aside0 (Li l F n0 s t x (proc (toP l) (esP l F) st x) stj i (j+1)):=⟨HLI.out.skip HEJ.out (.inr (by rw[HUP.out];exact hmem))⟩
       clear hneg hmem hy0
       go_wp2_with (first|((with_reducible refine gate_dst (N:=13) rfl ?_);refine box_event ?hg (N:=13) ?hd (cs:= #[.int .i64 0, .bool false]) (t:=38) ?hr ?_;(case hd=>rfl);(case hg=>rfl);(case hr=>first|(go_simp;done)|(go_simp;rfl));intro g8 hg w6 hbox hb;have GE8:Aside0 (wr.heap.size≤g8):=⟨Nat.le_of_eq hg.symm⟩;have B8:=Aside0.mk hbox;have HBL:=Aside0.mk hb;clear hbox hg hb;have hcz0:w6.cell? ⟨g8,0,none⟩=some (.int .i64 0):=(blk_cell B8.out 0).trans rfl;have hcz1:w6.cell? ⟨g8,1,none⟩=some (.bool false):=(blk_cell B8.out 1).trans rfl;have hfz0:=blk_frozen B8.out 0;have hfz1:=blk_frozen B8.out 1)|((with_reducible refine gate_store (t:=38) (p:=13) rfl ?_);refine store_event (t:=38) (p:=13) (v:= ?vo) (w1:=((w6.setCell ⟨g8,0,none⟩ (.int .i64 e.f0)).setCell ⟨g8,1,none⟩ (.bool e.f1))) ?hg ?ho ?hn ?hr ?_;(case ho=>rfl);(case hg=>rfl);(case hn=>rfl);(case hr=>first|(go_simp;done)|(go_simp;rfl));intro w8 hw;have m0_:Aside0 (w8.heap[g8]? =some (.cells #[.int .i64 e.f0, .bool e.f1] 38 (0,0))):=⟨by rw[hw];refine blk_put (cs:= #[.int .i64 e.f0, .bool false]) ?_ 1 _ rfl;refine blk_put (cs:= #[.int .i64 0, .bool false]) ?_ 0 _ rfl;exact B8.out⟩;have m1_:Aside0 (Below wr.heap.size wr w8):=⟨by rw[hw];exact below_set (below_set HBL.out GE8.out) GE8.out⟩;clear hw B8 HBL hcz0 hcz1 hfz0 hfz1 hs0 hs1;have B8:=m0_;clear m0_;have m0_:=Aside0.mk (HSJ.out.step m1_.out);have HG8:Aside0 (g8≠gd∧g8≠gb∧g8≠g3):=⟨by have h1:=HSJ.out.D.lt;have h2:=HSJ.out.B.lt;have h3:=blk_lt HSJ.out.b3;have h4:=GE8.out;omega⟩;clear HSJ m1_;have HSJ:=m0_;clear m0_;have c0:w8.cell? ⟨g3,0,none⟩=some (.int .i64 n0):=(blk_cell HSJ.out.b3 0).trans rfl;have c1:w8.cell? ⟨g3,1,none⟩=some (.bool a0_1):=(blk_cell HSJ.out.b3 1).trans rfl;have c2_:w8.cell? ⟨g3,2,none⟩=some (.slice A2 l.length c2):=(blk_cell HSJ.out.b3 2).trans rfl;have c3_:w8.cell? ⟨g3,3,none⟩=some (.slice A3 F.length c3):=(blk_cell HSJ.out.b3 3).trans rfl;have s0:w8.cell? ⟨g8,0,none⟩=some (.int .i64 e.f0):=(blk_cell B8.out 0).trans rfl;have s1:w8.cell? ⟨g8,1,none⟩=some (.bool e.f1):=(blk_cell B8.out 1).trans rfl;have hcu:w8.cell? ⟨gd,u,none⟩=some (.int .i64 y):=(by rw[HY.out];exact HSJ.out.D.cell (by rw[dOf_len];exact hun)))|(go_at_call 105;refine(static_Flowing_To.calls (n0:Int) a0_1 A2 c2 l A3 c3 F e.f0 e.f1 (u:Int) _ (Kd.C_below H2.out HSJ.out.below) HC2.out (Kd.C_below H3.out HSJ.out.below) HC3.out HTO.out).mono ?_;rintro e_ w9 ⟨rfl,hb9⟩;have m0_:=Aside0.mk (HSJ.out.step hb9);have m1_:=Aside0.mk (blk_below B8.out hb9);clear HSJ B8 hb9 c0 c1 c2_ c3_ s0 s1 hcu;have HSJ:=m0_;have B8:=m1_;clear m0_ m1_;have c0:w9.cell? ⟨g3,0,none⟩=some (.int .i64 n0):=(blk_cell HSJ.out.b3 0).trans rfl;have c1:w9.cell? ⟨g3,1,none⟩=some (.bool a0_1):=(blk_cell HSJ.out.b3 1).trans rfl;have c2_:w9.cell? ⟨g3,2,none⟩=some (.slice A2 l.length c2):=(blk_cell HSJ.out.b3 2).trans rfl;have c3_:w9.cell? ⟨g3,3,none⟩=some (.slice A3 F.length c3):=(blk_cell HSJ.out.b3 3).trans rfl;have s0:w9.cell? ⟨g8,0,none⟩=some (.int .i64 e.f0):=(blk_cell B8.out 0).trans rfl;have s1:w9.cell? ⟨g8,1,none⟩=some (.bool e.f1):=(blk_cell B8.out 1).trans rfl;have hcu:w9.cell? ⟨gd,u,none⟩=some (.int .i64 y):=(by rw[HY.out];exact HSJ.out.D.cell (by rw[dOf_len];exact hun)))|fail)
       go_roundw
       case rel=>exact⟨j+1,stj,by omega,by go_num,HNX,HSJ⟩
       case measure=>simp[intOf]<;>omega
      ·have hy0:y<0:=hneg.2 hmem
       have ey:decide (0≤y)=false:=decide_eq_false (by omega)
       have HMEM:Aside0 (toP l e ∉ nodes stj):=⟨by rw[HUP.out];exact hmem⟩
       clear hneg hmem hy0
       by_cases hr0:rm=0
       ·have er:(rm == 0)=true:=beq_iff_eq.2 hr0
        have HNX:Aside0 (Li l F n0 s t x (proc (toP l) (esP l F) st x) stj i (j+1)):=⟨HLI.out.skip HEJ.out (.inl (by rw[← HRMV.out];omega))⟩
        clear hr0
        go_wp2_with (first|((with_reducible refine gate_dst (N:=13) rfl ?_);refine box_event ?hg (N:=13) ?hd (cs:= #[.int .i64 0, .bool false]) (t:=38) ?hr ?_;(case hd=>rfl);(case hg=>rfl);(case hr=>first|(go_simp;done)|(go_simp;rfl));intro g8 hg w6 hbox hb;have GE8:Aside0 (wr.heap.size≤g8):=⟨Nat.le_of_eq hg.symm⟩;have B8:=Aside0.mk hbox;have HBL:=Aside0.mk hb;clear hbox hg hb;have hcz0:w6.cell? ⟨g8,0,none⟩=some (.int .i64 0):=(blk_cell B8.out 0).trans rfl;have hcz1:w6.cell? ⟨g8,1,none⟩=some (.bool false):=(blk_cell B8.out 1).trans rfl;have hfz0:=blk_frozen B8.out 0;have hfz1:=blk_frozen B8.out 1)|((with_reducible refine gate_store (t:=38) (p:=13) rfl ?_);refine store_event (t:=38) (p:=13) (v:= ?vo) (w1:=((w6.setCell ⟨g8,0,none⟩ (.int .i64 e.f0)).setCell ⟨g8,1,none⟩ (.bool e.f1))) ?hg ?ho ?hn ?hr ?_;(case ho=>rfl);(case hg=>rfl);(case hn=>rfl);(case hr=>first|(go_simp;done)|(go_simp;rfl));intro w8 hw;have m0_:Aside0 (w8.heap[g8]? =some (.cells #[.int .i64 e.f0, .bool e.f1] 38 (0,0))):=⟨by rw[hw];refine blk_put (cs:= #[.int .i64 e.f0, .bool false]) ?_ 1 _ rfl;refine blk_put (cs:= #[.int .i64 0, .bool false]) ?_ 0 _ rfl;exact B8.out⟩;have m1_:Aside0 (Below wr.heap.size wr w8):=⟨by rw[hw];exact below_set (below_set HBL.out GE8.out) GE8.out⟩;clear hw B8 HBL hcz0 hcz1 hfz0 hfz1 hs0 hs1;have B8:=m0_;clear m0_;have m0_:=Aside0.mk (HSJ.out.step m1_.out);have HG8:Aside0 (g8≠gd∧g8≠gb∧g8≠g3):=⟨by have h1:=HSJ.out.D.lt;have h2:=HSJ.out.B.lt;have h3:=blk_lt HSJ.out.b3;have h4:=GE8.out;omega⟩;clear HSJ m1_;have HSJ:=m0_;clear m0_;have c0:w8.cell? ⟨g3,0,none⟩=some (.int .i64 n0):=(blk_cell HSJ.out.b3 0).trans rfl;have c1:w8.cell? ⟨g3,1,none⟩=some (.bool a0_1):=(blk_cell HSJ.out.b3 1).trans rfl;have c2_:w8.cell? ⟨g3,2,none⟩=some (.slice A2 l.length c2):=(blk_cell HSJ.out.b3 2).trans rfl;have c3_:w8.cell? ⟨g3,3,none⟩=some (.slice A3 F.length c3):=(blk_cell HSJ.out.b3 3).trans rfl;have s0:w8.cell? ⟨g8,0,none⟩=some (.int .i64 e.f0):=(blk_cell B8.out 0).trans rfl;have s1:w8.cell? ⟨g8,1,none⟩=some (.bool e.f1):=(blk_cell B8.out 1).trans rfl;have hcu:w8.cell? ⟨gd,u,none⟩=some (.int .i64 y):=(by rw[HY.out];exact HSJ.out.D.cell (by rw[dOf_len];exact hun)))|(go_at_call 105;refine(static_Flowing_To.calls (n0:Int) a0_1 A2 c2 l A3 c3 F e.f0 e.f1 (u:Int) _ (Kd.C_below H2.out HSJ.out.below) HC2.out (Kd.C_below H3.out HSJ.out.below) HC3.out HTO.out).mono ?_;rintro e_ w9 ⟨rfl,hb9⟩;have m0_:=Aside0.mk (HSJ.out.step hb9);have m1_:=Aside0.mk (blk_below B8.out hb9);clear HSJ B8 hb9 c0 c1 c2_ c3_ s0 s1 hcu;have HSJ:=m0_;have B8:=m1_;clear m0_ m1_;have c0:w9.cell? ⟨g3,0,none⟩=some (.int .i64 n0):=(blk_cell HSJ.out.b3 0).trans rfl;have c1:w9.cell? ⟨g3,1,none⟩=some (.bool a0_1):=(blk_cell HSJ.out.b3 1).trans rfl;have c2_:w9.cell? ⟨g3,2,none⟩=some (.slice A2 l.length c2):=(blk_cell HSJ.out.b3 2).trans rfl;have c3_:w9.cell? ⟨g3,3,none⟩=some (.slice A3 F.length c3):=(blk_cell HSJ.out.b3 3).trans rfl;have s0:w9.cell? ⟨g8,0,none⟩=some (.int .i64 e.f0):=(blk_cell B8.out 0).trans rfl;have s1:w9.cell? ⟨g8,1,none⟩=some (.bool e.f1):=(blk_cell B8.out 1).trans rfl;have hcu:w9.cell? ⟨gd,u,none⟩=some (.int .i64 y):=(by rw[HY.out];exact HSJ.out.D.cell (by rw[dOf_len];exact hun)))|(go_at_call 104;refine(static_Flowing_Room.calls (n0:Int) a0_1 A2 c2 l A3 c3 F e.f0 e.f1 rm _ (Kd.C_below H2.out HSJ.out.below) HC2.out (Kd.C_below H3.out HSJ.out.below) HC3.out HRM.out).mono ?_;rintro e_ w10 ⟨rfl,hb9⟩;have m0_:=Aside0.mk (HSJ.out.step hb9);have m1_:=Aside0.mk (blk_below B8.out hb9);clear HSJ B8 hb9 c0 c1 c2_ c3_ s0 s1 hcu;have HSJ:=m0_;have B8:=m1_;clear m0_ m1_;have c0:w10.cell? ⟨g3,0,none⟩=some (.int .i64 n0):=(blk_cell HSJ.out.b3 0).trans rfl;have c1:w10.cell? ⟨g3,1,none⟩=some (.bool a0_1):=(blk_cell HSJ.out.b3 1).trans rfl;have c2_:w10.cell? ⟨g3,2,none⟩=some (.slice A2 l.length c2):=(blk_cell HSJ.out.b3 2).trans rfl;have c3_:w10.cell? ⟨g3,3,none⟩=some (.slice A3 F.length c3):=(blk_cell HSJ.out.b3 3).trans rfl;have s0:w10.cell? ⟨g8,0,none⟩=some (.int .i64 e.f0):=(blk_cell B8.out 0).trans rfl;have s1:w10.cell? ⟨g8,1,none⟩=some (.bool e.f1):=(blk_cell B8.out 1).trans rfl;have hcu:w10.cell? ⟨gd,u,none⟩=some (.int .i64 y):=(by rw[HY.out];exact HSJ.out.D.cell (by rw[dOf_len];exact hun)))|fail)
        go_roundw
        case rel=>exact⟨j+1,stj,by omega,by go_num,HNX,HSJ⟩
        case measure=>simp[intOf]<;>omega
       ·have er:(rm == 0)=false:=beq_eq_false_iff_ne.2 hr0
        have HRP:Aside0 (0<stRoom l F e):=⟨by rw[← HRMV.out];omega⟩
        clear hr0
        go_wp2_with (first|((with_reducible refine gate_dst (N:=13) rfl ?_);refine box_event ?hg (N:=13) ?hd (cs:= #[.int .i64 0, .bool false]) (t:=38) ?hr ?_;(case hd=>rfl);(case hg=>rfl);(case hr=>first|(go_simp;done)|(go_simp;rfl));intro g8 hg w6 hbox hb;have GE8:Aside0 (wr.heap.size≤g8):=⟨Nat.le_of_eq hg.symm⟩;have B8:=Aside0.mk hbox;have HBL:=Aside0.mk hb;clear hbox hg hb;have hcz0:w6.cell? ⟨g8,0,none⟩=some (.int .i64 0):=(blk_cell B8.out 0).trans rfl;have hcz1:w6.cell? ⟨g8,1,none⟩=some (.bool false):=(blk_cell B8.out 1).trans rfl;have hfz0:=blk_frozen B8.out 0;have hfz1:=blk_frozen B8.out 1)|((with_reducible refine gate_store (t:=38) (p:=13) rfl ?_);refine store_event (t:=38) (p:=13) (v:= ?vo) (w1:=((w6.setCell ⟨g8,0,none⟩ (.int .i64 e.f0)).setCell ⟨g8,1,none⟩ (.bool e.f1))) ?hg ?ho ?hn ?hr ?_;(case ho=>rfl);(case hg=>rfl);(case hn=>rfl);(case hr=>first|(go_simp;done)|(go_simp;rfl));intro w8 hw;have m0_:Aside0 (w8.heap[g8]? =some (.cells #[.int .i64 e.f0, .bool e.f1] 38 (0,0))):=⟨by rw[hw];refine blk_put (cs:= #[.int .i64 e.f0, .bool false]) ?_ 1 _ rfl;refine blk_put (cs:= #[.int .i64 0, .bool false]) ?_ 0 _ rfl;exact B8.out⟩;have m1_:Aside0 (Below wr.heap.size wr w8):=⟨by rw[hw];exact below_set (below_set HBL.out GE8.out) GE8.out⟩;clear hw B8 HBL hcz0 hcz1 hfz0 hfz1 hs0 hs1;have B8:=m0_;clear m0_;have m0_:=Aside0.mk (HSJ.out.step m1_.out);have HG8:Aside0 (g8≠gd∧g8≠gb∧g8≠g3):=⟨by have h1:=HSJ.out.D.lt;have h2:=HSJ.out.B.lt;have h3:=blk_lt HSJ.out.b3;have h4:=GE8.out;omega⟩;clear HSJ m1_;have HSJ:=m0_;clear m0_;have c0:w8.cell? ⟨g3,0,none⟩=some (.int .i64 n0):=(blk_cell HSJ.out.b3 0).trans rfl;have c1:w8.cell? ⟨g3,1,none⟩=some (.bool a0_1):=(blk_cell HSJ.out.b3 1).trans rfl;have c2_:w8.cell? ⟨g3,2,none⟩=some (.slice A2 l.length c2):=(blk_cell HSJ.out.b3 2).trans rfl;have c3_:w8.cell? ⟨g3,3,none⟩=some (.slice A3 F.length c3):=(blk_cell HSJ.out.b3 3).trans rfl;have s0:w8.cell? ⟨g8,0,none⟩=some (.int .i64 e.f0):=(blk_cell B8.out 0).trans rfl;have s1:w8.cell? ⟨g8,1,none⟩=some (.bool e.f1):=(blk_cell B8.out 1).trans rfl;have hcu:w8.cell? ⟨gd,u,none⟩=some (.int .i64 y):=(by rw[HY.out];exact HSJ.out.D.cell (by rw[dOf_len];exact hun)))|(go_at_call 105;refine(static_Flowing_To.calls (n0:Int) a0_1 A2 c2 l A3 c3 F e.f0 e.f1 (u:Int) _ (Kd.C_below H2.out HSJ.out.below) HC2.out (Kd.C_below H3.out HSJ.out.below) HC3.out HTO.out).mono ?_;rintro e_ w9 ⟨rfl,hb9⟩;have m0_:=Aside0.mk (HSJ.out.step hb9);have m1_:=Aside0.mk (blk_below B8.out hb9);clear HSJ B8 hb9 c0 c1 c2_ c3_ s0 s1 hcu;have HSJ:=m0_;have B8:=m1_;clear m0_ m1_;have c0:w9.cell? ⟨g3,0,none⟩=some (.int .i64 n0):=(blk_cell HSJ.out.b3 0).trans rfl;have c1:w9.cell? ⟨g3,1,none⟩=some (.bool a0_1):=(blk_cell HSJ.out.b3 1).trans rfl;have c2_:w9.cell? ⟨g3,2,none⟩=some (.slice A2 l.length c2):=(blk_cell HSJ.out.b3 2).trans rfl;have c3_:w9.cell? ⟨g3,3,none⟩=some (.slice A3 F.length c3):=(blk_cell HSJ.out.b3 3).trans rfl;have s0:w9.cell? ⟨g8,0,none⟩=some (.int .i64 e.f0):=(blk_cell B8.out 0).trans rfl;have s1:w9.cell? ⟨g8,1,none⟩=some (.bool e.f1):=(blk_cell B8.out 1).trans rfl;have hcu:w9.cell? ⟨gd,u,none⟩=some (.int .i64 y):=(by rw[HY.out];exact HSJ.out.D.cell (by rw[dOf_len];exact hun)))|(go_at_call 104;refine(static_Flowing_Room.calls (n0:Int) a0_1 A2 c2 l A3 c3 F e.f0 e.f1 rm _ (Kd.C_below H2.out HSJ.out.below) HC2.out (Kd.C_below H3.out HSJ.out.below) HC3.out HRM.out).mono ?_;rintro e_ w10 ⟨rfl,hb9⟩;have m0_:=Aside0.mk (HSJ.out.step hb9);have m1_:=Aside0.mk (blk_below B8.out hb9);clear HSJ B8 hb9 c0 c1 c2_ c3_ s0 s1 hcu;have HSJ:=m0_;have B8:=m1_;clear m0_ m1_;have c0:w10.cell? ⟨g3,0,none⟩=some (.int .i64 n0):=(blk_cell HSJ.out.b3 0).trans rfl;have c1:w10.cell? ⟨g3,1,none⟩=some (.bool a0_1):=(blk_cell HSJ.out.b3 1).trans rfl;have c2_:w10.cell? ⟨g3,2,none⟩=some (.slice A2 l.length c2):=(blk_cell HSJ.out.b3 2).trans rfl;have c3_:w10.cell? ⟨g3,3,none⟩=some (.slice A3 F.length c3):=(blk_cell HSJ.out.b3 3).trans rfl;have s0:w10.cell? ⟨g8,0,none⟩=some (.int .i64 e.f0):=(blk_cell B8.out 0).trans rfl;have s1:w10.cell? ⟨g8,1,none⟩=some (.bool e.f1):=(blk_cell B8.out 1).trans rfl;have hcu:w10.cell? ⟨gd,u,none⟩=some (.int .i64 y):=(by rw[HY.out];exact HSJ.out.D.cell (by rw[dOf_len];exact hun)))|fail)
        obtain⟨lv,hlv⟩: ∃ n_,n_=x.lv:=⟨_,rfl⟩
        have hxm:x∈stj:=List.mem_of_getElem? HLI.out.at_
        have hlv50:x.lv<50:=by have:=lv_lt HLI.out.fds hxm;have:=fds_len HLI.out.fds (esP_to HR.out) hs;omega
        have hcv:w10.cell? ⟨gd,x.v,none⟩=some (.int .i64 (lv:Int)):=by
         rw[hlv, ← dOf_mem HLI.out.fds.nodup hxm 0 hxn]
         exact HSJ.out.D.cell (by rw[dOf_len];exact hxn)
        rw[← hlv] at hlv50
        have HLV:=Aside0.mk hlv
        clear hlv hxm c0 c1 c2_ c3_
        obtain⟨hb0,hb1⟩:=HSJ.out.B.cell z38 (j:=u) (by rw[bOf_len];exact hun)
        generalize ((bOf z38 n0 stj).getD u z38)=zz at hb0 hb1
        have fd:=HSJ.out.D.free u
        have fb0:=HSJ.out.B.free (u * 2)
        have fb1:=HSJ.out.B.free (u * 2+1)
        obtain⟨n1,n2,n3⟩:=HG8.out
        obtain⟨n4,n5,n6,n7,n8⟩:=GD.out
        have pl0:(0:Int)≤(lv:Int):=by omega
        have pl1:(lv:Int)<50:=by omega
        go_region
        have m0_:Aside0 (IsI (seekW w10 gd gb u ((lv:Int)+1) e) gd (dOf n0 (stj ++ [⟨toP l e,e,x.lv+1⟩]))):=⟨by
         rw[dOf_snoc n0 HMEM.out,HUP.out, ← HLV.out]
         exact seek_D HSJ.out.D n6 u _ e⟩
        have m1_:Aside0 (IsS (seekW w10 gd gb u ((lv:Int)+1) e) gb (bOf z38 n0 (stj ++ [⟨toP l e,e,x.lv+1⟩]))):=⟨by
         rw[bOf_snoc z38 n0 HMEM.out,HUP.out]
         exact seek_B HSJ.out.B n6 u _ e⟩
        have m2_:Aside0 ((seekW w10 gd gb u ((lv:Int)+1) e).heap[g3]? =some (.cells #[.int .i64 n0, .bool a0_1, .slice A2 l.length c2, .slice A3 F.length c3, .slice (some ad4) n0 c4] 118 (0,0))):=⟨(seek_far w10 u _ e n4 n5).trans HSJ.out.b3⟩
        have m3_:Aside0 (Below w.heap.size w (seekW w10 gd gb u ((lv:Int)+1) e)):=⟨below_drew (below_set (below_set (below_set HSJ.out.below n7) n8) n8)⟩
        obtain⟨Aj,Rj,frj,hqj,hqlj,hsj⟩:=HSJ.out.que
        have hqj2:=hqj.step (w1:=seekW w10 gd gb u ((lv:Int)+1) e) (fun k _ hk=>seek_far w10 u _ e (hsj k hk).2.1 (hsj k hk).2.2.1)
        have HQJ:=Aside0.mk hqj2
        have HQLJ:=Aside0.mk hqlj
        have HSEPJ:=Aside0.mk hsj
        have hif:i<stj.length:=(List.getElem?_eq_some_iff.1 HLI.out.at_).1
        have hadd:=HLI.out.add HEJ.out HRP.out HMEM.out
        have hcount:stj.length+1≤n0:=by have:=fds_len hadd.1 (esP_to HR.out) hs;simpa using this
        clear hqj hqj2 hqlj hsj HSJ B8 hb0 hb1 fd fb0 fb1 hcv hcu s0 s1 n1 n2 n3 hadd HG8
        have HD:=m0_
        have HS:=m1_
        have B3:=m2_
        have HB:=m3_
        clear m0_ m1_ m2_ m3_
        generalize hw12:(((w10.setCell ⟨gd,u,none⟩ (.int .i64 ((lv:Int)+1))).setCell ⟨gb,u * 2,none⟩ (.int .i64 e.f0)).setCell ⟨gb,u * 2+1,none⟩ (.bool e.f1)).drew=w12
        rw[show seekW w10 gd gb u ((lv:Int)+1) e=w12 from hw12] at HD HS B3 HB HQJ
        clear hw12
        by_cases htu:t=(u:Int)
        ·have et:((u:Int) == t)=true:=by rw[htu];simp
         have HSN:=Aside0.mk (HLI.out.found HLP.out HX.out (by omega) HEJ.out HRP.out HMEM.out (by rw[HUP.out];exact htu))
         clear htu
         go_wp2_with fail
         rw[Exit.noGoto_ret]
         go_ret2
         exact⟨gd,gb,_,rfl,n7,n8,n6,HD.out,HS.out,HB.out,HSN.out⟩
        ·have et:((u:Int) == t)=false:=beq_eq_false_iff_ne.2 (Ne.symm htu)
         have HNX:=Aside0.mk (HLI.out.put HEJ.out HRP.out HMEM.out (by rw[HUP.out];exact htu))
         clear htu
         go_wp2_with (first|(go_at_call 165;refine(que_put gq Aj Rj frj (stj.length - (i+1)) n0 (u:Int) _ HQJ.out (by omega)).mono ?_;rintro e_ w13 ⟨rfl,A',R',fr',hq',hql',hk',hs'⟩;have HM:Aside0 (Sm n0 a0_1 A2 c2 l A3 c3 F (some ad4) c4 g3 gd gb gq w (stj ++ [⟨toP l e,e,x.lv+1⟩]) (i+1) w13):=⟨⟨HD.out.kept hk' (fun h=>(HSEPJ.out _ h).2.1 rfl),HS.out.kept hk' (fun h=>(HSEPJ.out _ h).2.2.1 rfl),hk'.blk B3.out (fun h=>(HSEPJ.out _ h).2.2.2 rfl),⟨A',R',fr',by rw[List.length_append,List.length_singleton,show stj.length+1 - (i+1)=stj.length - (i+1)+1 by omega];exact hq',by rw[List.length_append,List.length_singleton,show stj.length+1 - (i+1)=stj.length - (i+1)+1 by omega,hql',HQLJ.out,qOf_snoc (by omega)];show _=qOf stj (i+1) ++ [((toP l e:Nat):Int)];rw[HUP.out],fun k hk=>(hs' k hk).elim (HSEPJ.out k) (fun h=>by have h1:=HB.out.size;have h2:=HD.out.lt;have h3:=HS.out.lt;have h4:=blk_lt B3.out;omega)⟩,hk'.toBelow HB.out HB.out.size (fun b hb=>(HSEPJ.out b hb).1)⟩⟩;clear HD HS B3 HB hq' hql' hk' hs')|fail)
         go_roundw
         case rel=>exact⟨j+1,_,by omega,by go_num,HNX,HM⟩
         case measure=>simp[intOf]<;>omega
     ·have ej:j=LN:=by omega
      subst ej
      have c55:decide ((j:Int)<(j:Int))=false:=decide_eq_false (by omega)
      go_wp2_with fail
      go_roundw
      case rel=>exact⟨_,stj,i+1,rfl,Li.next HR.out hs HLP.out HX.out (by have h_:=HLI.out;rw[HLN.out] at h_;exact h_),HSJ.out⟩
      case measure=>exact least_lt ⟨stj,i+1,rfl,Li.next HR.out hs HLP.out HX.out (by have h_:=HLI.out;rw[HLN.out] at h_;exact h_),HSJ.out⟩ (by rw[← HLE.out,HMI.out];omega)
   ·have hi:i=st.length:=by omega
    rw[show st.length - i=0 by omega] at hq
    have HQ:=Aside0.mk hq
    clear hq hql hsep
    go_wp2_with (first|(go_at_call 166;refine(que_len gq A R fr 0 n0 _ HQ.out).mono ?_;rintro e_ w_ ⟨rfl,hw_⟩;subst hw_)|fail)
    rw[Exit.noGoto_ret]
    go_ret2
    have hg:=GD.out
    exact⟨gd,gb,st,rfl,hg.2.2.2.1,hg.2.2.2.2,hg.2.2.1,HSM.out.D,HSM.out.B,HSM.out.below,HLP.out.seen hi⟩
end Go.Proofs.Ytkcpanpdipmmmaa.H
namespace Go.Proofs.Ytkcpanpdipmmmaa.H
open Go.RowKit Go.Proofs.YtkcpanpdipmmmaaW.PrintWords Go.Proofs.YtkcpanpdipmmmaaW.PrintLast Go.Proofs.YtkcpanpdipmmmaaW.PrintMore Go.Proofs.Ytkcpanpdipmmmaa.P Go.Proofs.Ytkcpanpdipmmmaa.Q
def endsErr (n:Int) (l:List S74) (s t:Int):Int:=if netErr n l=0 then(if 0≤s∧s<n∧0≤t∧t<n∧s≠t then 0 else 70) else netErr n l
end Go.Proofs.Ytkcpanpdipmmmaa.H
namespace Go.Proofs.Ytkcpanpdipmmmaa.H
open Go.RowKit Go.Proofs.YtkcpanpdipmmmaaW.PrintWords Go.Proofs.YtkcpanpdipmmmaaW.PrintLast Go.Proofs.YtkcpanpdipmmmaaW.PrintMore Go.Proofs.Ytkcpanpdipmmmaa.P
attribute [local irreducible] wpQuiet
theorem fromS_f {l:List S74} {F:List Int} {n:Nat} (hr:Right l F n) {s:S38} (hs:StepOf l s) (a:Int) (b:Bool):static_Flowing_From.f a b l F s.f0 s.f1=some (stFrom l s):=by
 obtain⟨i,h1,h2⟩:=hs
 unfold static_Flowing_From.f stFrom eFrom eTo
 rw[h2]
 cases s.f1<;>simp[h1]
set_option maxHeartbeats 2000000 in
set_option maxRecDepth 100000 in
theorem far_calls (n0:Nat) (a0_1:Bool) (A2:Option Addr) (c2:Nat) (l:List S74) (A3:Option Addr) (c3:Nat) (F:List Int) (A4:Option Addr) (c4:Nat) (s:Nat) (w:World)
  (hR:Right l F n0) (hs:s<n0) (hc2:l.length≤c2) (hc3:F.length≤c3) (h2:Kd.C k74 w A2 l.length l) (h3:Kd.C (Kd.int .i64) w A3 F.length F) (h4:(Kd.slice 38 k38).C w A4 n0 (rowsAt l n0 n0)):
  Calls Try.prog 108 #[.agg #[.int .i64 n0, .bool a0_1, .slice A2 l.length c2, .slice A3 F.length c3, .slice A4 n0 c4], .int .i64 (s:Int)] w fun e w'=> ∃ gd:Nat,e= .returned (.slice (some ⟨gd,0,none⟩) n0 n0)∧w.heap.size≤gd∧IsI w' gd (dOf n0 (bfP l F n0 s))∧Below w.heap.size w w':=by
 have hu118:=Try.underlying118
 have HR:=Aside0.mk hR
 have HC2:=Aside0.mk hc2
 have HC3:=Aside0.mk hc3
 have H2:=Aside0.mk h2
 have H3:=Aside0.mk h3
 have H4:=Aside0.mk h4
 have HB:=Aside0.mk (Below.refl w.heap.size w)
 clear hR h2 h3 h4 hc2 hc3
 go_enter Try.func108,Try.ntmps108
 go_wp2_with (first|((with_reducible refine gate_dst (N:=2) rfl ?_);refine box_event ?hg (N:=2) ?hd (cs:= #[.int .i64 n0, .bool a0_1, .slice A2 l.length c2, .slice A3 F.length c3, .slice A4 n0 c4]) (t:=118) ?hr ?_;(case hd=>rfl);(case hg=>rfl);(case hr=>first|(go_simp;done)|(go_simp;rfl));intro g3 hg w5 hbox hb;have n0_:=Aside0.mk (below_step HB.out hb);have B3:=Aside0.mk hbox;clear HB;have HB:=n0_;have GE3:Aside0 (w.heap.size≤g3):=⟨Nat.le_of_eq hg.symm⟩;clear n0_ hb hbox hg;have c0:w5.cell? ⟨g3,0,none⟩=some (.int .i64 n0):=(blk_cell B3.out 0).trans rfl;have c1:w5.cell? ⟨g3,1,none⟩=some (.bool a0_1):=(blk_cell B3.out 1).trans rfl;have c2_:w5.cell? ⟨g3,2,none⟩=some (.slice A2 l.length c2):=(blk_cell B3.out 2).trans rfl;have c3_:w5.cell? ⟨g3,3,none⟩=some (.slice A3 F.length c3):=(blk_cell B3.out 3).trans rfl;have c4_:w5.cell? ⟨g3,4,none⟩=some (.slice A4 n0 c4):=(blk_cell B3.out 4).trans rfl)|(go_at_call 145;refine(seek_calls n0 a0_1 A2 c2 l A3 c3 F A4 c4 s (-1) _ HR.out hs (by omega) HC2.out HC3.out (Kd.C_below H2.out HB.out) (Kd.C_below H3.out HB.out) (Kd.C_below H4.out HB.out)).mono ?_;rintro e_ w6 ⟨gd,gb,st,rfl,hg1,hg2,hg3,hd,hs_,hb,hsn⟩;have HD:=Aside0.mk hd;have HSN:=Aside0.mk hsn;have HG:=Aside0.mk hg1;have m0_:=Aside0.mk (below_step HB.out hb);have HS5:=HB.out.size;clear HB B3 hd hs_ hb hsn hg1 hg2 hg3 c0 c1 c2_ c3_ c4_;have HB:=m0_;clear m0_)|fail)
 go_ret
 have e:_=bfP l F n0 s:=HSN.out.hit.resolve_right (by rintro⟨tn,h1,_⟩;omega)
 refine⟨gd,rfl,by have:=HG.out;omega,?_,HB.out⟩
 have h_:=HD.out
 rw[e] at h_
 exact h_
end Go.Proofs.Ytkcpanpdipmmmaa.H
namespace Go.Proofs.Ytkcpanpdipmmmaa.H
open Go.RowKit Go.Proofs.YtkcpanpdipmmmaaW.PrintWords Go.Proofs.YtkcpanpdipmmmaaW.PrintLast Go.Proofs.YtkcpanpdipmmmaaW.PrintMore Go.Proofs.Ytkcpanpdipmmmaa.P
set_option maxHeartbeats 2000000 in
set_option maxRecDepth 100000 in
theorem steps_calls (n0:Nat) (a0_1:Bool) (A2:Option Addr) (c2:Nat) (l:List S74) (A3:Option Addr) (c3:Nat) (F:List Int) (A4:Option Addr) (c4:Nat) (v:Nat) (w:World)
  (hv:v<n0) (hn50:n0≤50) {ad:Addr} (hA:A4=some ad) {Av:Option Addr} {LN cv:Nat} (hrw:w.cell? (ad.add v)=some (.slice Av LN cv)):
  Calls Try.prog 140 #[.agg #[.int .i64 (n0:Int), .bool a0_1, .slice A2 l.length c2, .slice A3 F.length c3, .slice A4 n0 c4], .int .i64 (v:Int)] w fun e w'=>e= .returned (.slice Av LN cv)∧Below w.heap.size w w':=by
 have hu118:=Try.underlying118
 subst hA
 have HRW:=Aside0.mk hrw
 have px:(0:Int)≤(v:Int):=by omega
 have qx:(v:Int)<(n0:Int):=by omega
 clear hrw
 go_enter Try.func140,Try.ntmps140
 go_upto_region 1 with (first|((with_reducible refine gate_dst (N:=2) rfl ?_);refine box_event ?hg (N:=2) ?hd (cs:= #[.int .i64 (n0:Int), .bool a0_1, .slice A2 l.length c2, .slice A3 F.length c3, .slice (some ad) n0 c4]) (t:=118) ?hr ?_;(case hd=>rfl);(case hg=>rfl);(case hr=>first|(go_simp;done)|(go_simp;rfl));intro g2 hg2 w3 hbox hb;have B2:=Aside0.mk hbox;have HB:=Aside0.mk hb;clear hg2 hb hbox)|fail)
 have a4:w3.cell? ⟨g2,4,none⟩=some (.slice (some ad) n0 c4):=(blk_cell B2.out 4).trans rfl
 have hr3:=pw_cell_below HB.out HRW.out
 go_wp2_with fail
 go_ret
 exact⟨rfl,HB.out⟩
def nI (nx:List Nat):List Int:=nx.map fun j:Nat=>(j:Int)
theorem nI_len (nx:List Nat):(nI nx).length=nx.length:=by simp[nI]
theorem nI_get (nx:List Nat) (v:Nat) (h:v<nx.length):(nI nx).getD v 0=((nx.getD v 0:Nat):Int):=by
 rw[List.getD_eq_getElem?_getD,List.getD_eq_getElem?_getD]
 unfold nI
 rw[List.getElem?_map,List.getElem?_eq_getElem h]
 rfl
theorem nI_set (nx:List Nat) (v j:Nat):nI (nx.set v j)=(nI nx).set v (j:Int):=by unfold nI;rw[List.map_set]
structure Fi (n0:Nat) (a0_1:Bool) (A2:Option Addr) (c2:Nat) (l:List S74) (gF cF:Nat) (A4:Option Addr) (c4 gx gd gn B:Nat) (F D:List Int) (nx:List Nat) (w:World):Prop where
 x:w.heap[gx]? =some (.cells #[.int .i64 (n0:Int), .bool a0_1, .slice A2 l.length c2, .slice (some ⟨gF,0,none⟩) F.length cF, .slice A4 n0 c4, .slice (some ⟨gd,0,none⟩) n0 n0, .slice (some ⟨gn,0,none⟩) n0 n0] 184 (0,0))
 d:IsI w gd D
 nx:IsI w gn (nI nx)
 fl:IsI w gF F
 arcs:Kd.F k74 w (fun k=>k<B∧k≠gF∧k≠gd∧k≠gn∧k≠gx) A2 l.length l
 rows:Kd.F (Kd.slice 38 k38) w (fun k=>k<B∧k≠gF∧k≠gd∧k≠gn∧k≠gx) A4 n0 (rowsAt l n0 n0)
 size:B≤w.heap.size
 low:gx<B∧gd<B∧gn<B∧gF<B
 apart:gx≠gd∧gx≠gn∧gx≠gF∧gd≠gn∧gd≠gF∧gn≠gF
 ca:l.length≤c2
 cf:F.length≤cF
section
variable {n0:Nat} {a0_1:Bool} {A2:Option Addr} {c2:Nat} {l:List S74} {gF cF:Nat} {A4:Option Addr} {c4 gx gd gn B:Nat} {F D:List Int} {nx:List Nat} {w w1:World}
theorem Fi.keep (h:Fi n0 a0_1 A2 c2 l gF cF A4 c4 gx gd gn B F D nx w) (hb:Below B w w1):Fi n0 a0_1 A2 c2 l gF cF A4 c4 gx gd gn B F D nx w1:=
 ⟨(hb.block _ h.low.1).trans h.x,h.d.same (hb.block _ h.low.2.1),h.nx.same (hb.block _ h.low.2.2.1),h.fl.same (hb.block _ h.low.2.2.2),Kd.F_step h.arcs (fun k hk _=>hb.block k hk.1),Kd.F_step h.rows (fun k hk _=>hb.block k hk.1),Nat.le_trans h.size hb.size,h.low,h.apart,h.ca,h.cf⟩
theorem Fi.below (h:Fi n0 a0_1 A2 c2 l gF cF A4 c4 gx gd gn B F D nx w) (hb:Below w.heap.size w w1):Fi n0 a0_1 A2 c2 l gF cF A4 c4 gx gd gn B F D nx w1:=h.keep ⟨hb.os,hb.tape,hb.output,hb.size,fun k hk=>hb.block k (Nat.lt_of_lt_of_le hk h.size)⟩
theorem Fi.put (h:Fi n0 a0_1 A2 c2 l gF cF A4 c4 gx gd gn B F D nx w) (v j:Nat):Fi n0 a0_1 A2 c2 l gF cF A4 c4 gx gd gn B F D (nx.set v j) (w.setCell ⟨gn,v,none⟩ (.int .i64 (j:Int))):=
 ⟨blk_far h.x (p:=⟨gn,v,none⟩) h.apart.2.1 _,h.d.far (p:=⟨gn,v,none⟩) h.apart.2.2.2.1 _,by rw[nI_set];exact h.nx.put v _,h.fl.far (p:=⟨gn,v,none⟩) (Ne.symm h.apart.2.2.2.2.2) _,
  Kd.F_far h.arcs (p:=⟨gn,v,none⟩) (fun k hk=>hk.2.2.2.1) _,Kd.F_far h.rows (p:=⟨gn,v,none⟩) (fun k hk=>hk.2.2.2.1) _,by simpa [World.setCell] using h.size,h.low,h.apart,h.ca,h.cf⟩
theorem Fi.ca_ (h:Fi n0 a0_1 A2 c2 l gF cF A4 c4 gx gd gn B F D nx w):Kd.C k74 w A2 l.length l:=Kd.F_now h.arcs
theorem Fi.row (h:Fi n0 a0_1 A2 c2 l gF cF A4 c4 gx gd gn B F D nx w) {v:Nat} (hv:v<n0): ∃ (ad:Addr) (Av:Option Addr) (cv:Nat),A4=some ad∧w.cell? (ad.add v)=some (.slice Av (stL l v l.length).length cv)∧(stL l v l.length).length≤cv∧Kd.F k38 w (fun k=>k<B∧k≠gF∧k≠gd∧k≠gn∧k≠gx) Av (stL l v l.length).length (stL l v l.length):=by
 obtain⟨ad,c,hA,_,hFK,hcc,_⟩:=Kd.F_get h.rows [] (v:Int) (by omega) (by omega)
 have hrow:(rowsAt l n0 n0).getD (v:Int).toNat []=stL l v l.length:=by rw[Int.toNat_natCast,List.getD_eq_getElem?_getD,rowsAt_get l n0 n0 _ hv,if_pos hv];rfl
 rw[hrow] at hFK
 obtain⟨Av,cv,rfl,hl,hF⟩:=Kd.FK_slice_open hFK
 have hrw:=hcc 0 _ rfl
 have e0:(v:Int).toNat * (Kd.slice 38 k38).sz+0=v:=by rw[Int.toNat_natCast];show v * 1+0=v;omega
 rw[e0] at hrw
 exact⟨ad,Av,cv,hA,hrw,hl,hF⟩
theorem isI_C {g:Nat} {X:List Int} (h:IsI w g X) (hl:X.length≤9223372036854775807):Kd.C (Kd.int .i64) w (some ⟨g,0,none⟩) X.length X:=(Kd.R_reads' (h.R hl (base:=0) (Nat.zero_le _) (ok:=fun _=>True) trivial)).2.2
theorem ks_b {S:Nat→Prop} {w2:World} (h:Ks S w w1) (hb:Below w.heap.size w1 w2):Ks S w w2:=
 ⟨hb.os.trans h.os,hb.tape.trans h.tape,hb.output.trans h.output,Nat.le_trans h.size hb.size,fun k hk hs=>(hb.block k hk).trans (h.block k hk hs)⟩
theorem below_low {b:Nat} (h:b≤w.heap.size) (hb:Below w.heap.size w w1):Below b w w1:=⟨hb.os,hb.tape,hb.output,hb.size,fun k hk=>hb.block k (Nat.lt_of_lt_of_le hk h)⟩
end
end Go.Proofs.Ytkcpanpdipmmmaa.H
namespace Go.Proofs.Ytkcpanpdipmmmaa.H
open Go.RowKit Go.Proofs.YtkcpanpdipmmmaaW.PrintWords Go.Proofs.YtkcpanpdipmmmaaW.PrintLast Go.Proofs.YtkcpanpdipmmmaaW.PrintMore Go.Proofs.Ytkcpanpdipmmmaa.P
def nxAt (gn v:Nat) (w:World):Nat:=match w.cell? ⟨gn,v,none⟩ with|some u=>(intOf u).toNat|none=>0
theorem nxAt_eq {gn v:Nat} {nx:List Nat} {w:World} (h:IsI w gn (nI nx)) (hv:v<nx.length):nxAt gn v w=nx.getD v 0:=by
 unfold nxAt
 rw[h.cell (by rw[nI_len];exact hv),nI_get nx v hv]
 show (((nx.getD v 0:Nat):Int)).toNat=_
 exact Int.toNat_natCast _
theorem set_same (nx:List Nat) (v:Nat):nx.set v (nx.getD v 0)=nx:=by
 apply List.ext_getElem?
 intro i
 rw[List.getElem?_set]
 by_cases h:v=i
 ·subst h
  rw[if_pos rfl,List.getD_eq_getElem?_getD]
  by_cases hl:v<nx.length
  ·rw[if_pos hl,List.getElem?_eq_getElem hl];rfl
  ·rw[if_neg hl,List.getElem?_eq_none (by omega)]
 ·rw[if_neg h]
theorem getD_put (nx:List Nat) (v j:Nat) (h:v<nx.length):(nx.set v j).getD v 0=j:=by rw[List.getD_eq_getElem?_getD,List.getElem?_set_self h];rfl
theorem leads_len {α:Type} {g:Net_ α} (hfr: ∀ u e,e∈g.rows u→g.fr e=u): ∀ {way:List α} {s v:Nat},Leads g.to_ g.rows s way v→(∀ e,e∈way→g.adm (g.fr e) e=true)→g.D v=g.D s+way.length
 |[],s,v,h,_=>by cases h;simp
 |x::way,s,v,h,ha=>by
  have hx:=adm_lv (ha x List.mem_cons_self)
  rw[hfr _ _ h.1] at hx
  have h2:=leads_len hfr h.2 (fun e he=>ha e (List.mem_cons_of_mem _ he))
  rw[List.length_cons]
  omega
theorem downG_go {α:Type} {g:Net_ α} {s t k v:Nat} {way:List α} {nx:List Nat} {j:Nat} {e:α} (h:v≠t) (hs:scanG (g.adm v) ((g.rows v).drop (nx.getD v 0)) (nx.getD v 0)=some (j,e)):downG g s t (k+1) v way nx=downG g s t k (g.to_ e) (way ++ [e]) (nx.set v j):=by
 rw[downG,if_neg h,hs]
theorem downG_out {α:Type} {g:Net_ α} {t k v:Nat} {way:List α} {nx:List Nat} (h:v≠t) (hs:scanG (g.adm v) ((g.rows v).drop (nx.getD v 0)) (nx.getD v 0)=none):downG g v t (k+1) v way nx=(none,nx.set v (g.rows v).length):=by
 rw[downG,if_neg h,hs]
 show (if v=v then _ else _:Option (List α) × List Nat)=_
 rw[if_pos rfl]
theorem downG_back {α:Type} {g:Net_ α} {s t k v:Nat} {way:List α} {nx:List Nat} {e:α} (h:v≠t) (hvs:v≠s) (hs:scanG (g.adm v) ((g.rows v).drop (nx.getD v 0)) (nx.getD v 0)=none) (hl:way.getLast? =some e):
  downG g s t (k+1) v way nx=downG g s t k (g.fr e) way.dropLast ((nx.set v (g.rows v).length).set (g.fr e) ((nx.set v (g.rows v).length).getD (g.fr e) 0+1)):=by
 rw[downG,if_neg h,hs]
 show (if v=s then _ else _:Option (List α) × List Nat)=_
 rw[if_neg hvs,hl]
attribute [local irreducible] wpQuiet
def Dn (n0:Nat) (a0_1:Bool) (A2:Option Addr) (c2:Nat) (l:List S74) (gF cF:Nat) (A4:Option Addr) (c4 gx gd gn:Nat) (F D:List Int) (s t:Nat) (R:Option (List S38) × List Nat) (w:World) (v8 v9:Value) (w':World) (k:Nat):Prop:=
 ∃ (v:Nat) (way:List S38) (nx:List Nat),v9= .int .i64 (v:Int)∧DInv (netG l F D) s n0 v way nx∧downM (netG l F D) n0 v nx<k∧downG (netG l F D) s t k v way nx=R∧
  Kd.R k38 38 w' w.heap.size (fun b=>w.heap.size≤b) v8 way∧Fi n0 a0_1 A2 c2 l gF cF A4 c4 gx gd gn w.heap.size F D nx w'∧Ks (fun b=>b=gn) w w'
set_option maxHeartbeats 20000000 in
set_option maxRecDepth 100000 in
theorem down_calls (n0:Nat) (a0_1:Bool) (A2:Option Addr) (c2:Nat) (l:List S74) (gF cF:Nat) (A4:Option Addr) (c4 gx gd gn:Nat) (F D:List Int) (s t:Nat) (nx0:List Nat) (w:World)
  (hR:Right l F n0) (hDl:D.length=n0) (hDb: ∀ v,v<n0→ -1≤D.getD v 0∧D.getD v 0≤50) (hg:(netG l F D).Fine s n0) (hnx:NxOk l n0 nx0) (hs:s<n0) (ht:t<n0) (h:Fi n0 a0_1 A2 c2 l gF cF A4 c4 gx gd gn w.heap.size F D nx0 w):
  Calls Try.prog 174 #[.pointer (some ⟨gx,0,none⟩), .int .i64 (s:Int), .int .i64 (t:Int)] w fun e w'=> ∃ v:Value,e= .returned (.tuple #[v, .bool (downG (netG l F D) s t 2000000 s [] nx0).1.isSome])∧
   (∀ L,(downG (netG l F D) s t 2000000 s [] nx0).1=some L→Kd.R k38 38 w' w.heap.size (fun _=>True) v L)∧Fi n0 a0_1 A2 c2 l gF cF A4 c4 gx gd gn w.heap.size F D (downG (netG l F D) s t 2000000 s [] nx0).2 w'∧Ks (fun b=>b=gn) w w':=by
 have hu118:=Try.underlying118
 have hu184:=Try.underlying184
 have hu115:=Try.underlying115
 have hu38:=Try.underlying38
 obtain⟨R,hRR⟩: ∃ R,R=downG (netG l F D) s t 2000000 s [] nx0:=⟨_,rfl⟩
 rw[← hRR]
 have HR:=Aside0.mk hR
 have HRR:=Aside0.mk hRR
 have HDB:=Aside0.mk hDb
 have HG:=Aside0.mk hg
 have HNX:=Aside0.mk hnx
 have HF:=Aside0.mk h
 have hn50:=hR.fifty
 have harc:=hR.arcs
 have har:l.length≤200:=harc
 clear hR hRR hDb hg hnx h harc
 go_enter Try.func174,Try.ntmps174
 go_upto_region 2 with fail
 go_step3
 go_wp2_with fail
 go_step3
 go_wp2_with fail
 have m0_:=Aside0.mk (HF.out.below (below_alloc (Below.refl _ _) (.cells #[] 38)))
 have HO:Aside0 (Kd.R k38 38 (w.alloc (.cells #[] 38)) w.heap.size (fun b=>w.heap.size≤b) (.slice (some ⟨w.heap.size,0,none⟩) 0 0) []):=⟨IsS.R (B:=[]) (heap_alloc_new w _) (by simp) (Nat.le_refl _) (Nat.le_refl _)⟩
 have HK:Aside0 (Ks (fun b=>b=gn) w (w.alloc (.cells #[] 38))):=⟨Ks.of_below (below_alloc (Below.refl _ _) _) _⟩
 clear HF
 have HF:=m0_
 clear m0_
 generalize w.alloc (.cells #[] 38)=w1 at *
 generalize Value.slice (some ⟨w.heap.size,0,none⟩) 0 0=v0 at *
 go_loopw [8,9] (fun v8 v9 w'=> ∃ k,Dn n0 a0_1 A2 c2 l gF cF A4 c4 gx gd gn F D s t R w v8 v9 w' k) (fun v8 v9 w'=>least (fun k=>Dn n0 a0_1 A2 c2 l gF cF A4 c4 gx gd gn F D s t R w v8 v9 w' k))
 case atStart=>exact⟨2000000,s,[],nx0,rfl,dinv_start hs HNX.out,downM_lt har hn50 _,HRR.out.symm,HO.out,HF.out,HK.out⟩
 case round=>
  clear HO HK HF
  have hmin:=least_spec hrel
  obtain⟨kk,hkk⟩: ∃ k_,k_=least (fun k=>Dn n0 a0_1 A2 c2 l gF cF A4 c4 gx gd gn F D s t R w u8 u9 wr k):=⟨_,rfl⟩
  rw[← hkk] at hmin
  have HLE:=Aside0.mk hkk
  clear hrel hkk
  obtain⟨v,way,nx,rfl,hdi,hdm,hdg,hO,hF,hK⟩:=hmin
  obtain⟨k,rfl⟩: ∃ k,kk=k+1:=⟨kk - 1,by omega⟩
  have HDI:=Aside0.mk hdi
  have HDM:=Aside0.mk hdm
  have HDG:=Aside0.mk hdg
  have HO:=Aside0.mk hO
  have HF:=Aside0.mk hF
  have HK:=Aside0.mk hK
  have hvn:=hdi.vn
  clear hdi hdm hdg hO hF hK
  by_cases hvt:v=t
  ·have e1:((v:Int) != (t:Int))=false:=by rw[hvt];simp
   have HR2:Aside0 (R=(some way,nx)):=⟨by rw[← HDG.out];show (if v=t then _ else _:Option (List S38) × List Nat)=_;rw[if_pos hvt]⟩
   clear hvt
   go_wp2_with fail
   rw[Exit.noGoto_ret]
   go_ret2
   rw[HR2.out]
   exact⟨_,rfl,fun L hL=>by cases hL;exact Kd.R_mono HO.out (fun _ _=>trivial),HF.out,HK.out⟩
  ·have e1:((v:Int) != (t:Int))=true:=by rw[bne_iff_ne];omega
   obtain⟨ad,Av,cv,hA,hrw,hlc,hrF⟩:=HF.out.row hvn
   obtain⟨LN,hLN⟩: ∃ n_,n_=(stL l v l.length).length:=⟨_,rfl⟩
   have hlen4:LN≤400:=by have:=stL_len l v l.length;omega
   rw[← hLN] at hrw hlc hrF
   have HLN:=Aside0.mk hLN
   have HRW:=Aside0.mk hrw
   have HLC:=Aside0.mk hlc
   have HRF:=Aside0.mk hrF
   have HAA:=Aside0.mk hA
   clear hA hrw hlc hrF hLN
   have x0:wr.cell? ⟨gx,0,none⟩=some (.int .i64 (n0:Int)):=(blk_cell HF.out.x 0).trans rfl;have x1:wr.cell? ⟨gx,1,none⟩=some (.bool a0_1):=(blk_cell HF.out.x 1).trans rfl;have x2:wr.cell? ⟨gx,2,none⟩=some (.slice A2 l.length c2):=(blk_cell HF.out.x 2).trans rfl;have x3:wr.cell? ⟨gx,3,none⟩=some (.slice (some ⟨gF,0,none⟩) F.length cF):=(blk_cell HF.out.x 3).trans rfl;have x4:wr.cell? ⟨gx,4,none⟩=some (.slice A4 n0 c4):=(blk_cell HF.out.x 4).trans rfl;have x5:wr.cell? ⟨gx,5,none⟩=some (.slice (some ⟨gd,0,none⟩) n0 n0):=(blk_cell HF.out.x 5).trans rfl;have x6:wr.cell? ⟨gx,6,none⟩=some (.slice (some ⟨gn,0,none⟩) n0 n0):=(blk_cell HF.out.x 6).trans rfl
   go_wp2_with (first|(go_at_call 140;refine(steps_calls n0 a0_1 A2 c2 l (some ⟨gF,0,none⟩) cF F A4 c4 v _ hvn hn50 HAA.out HRW.out).mono ?_;rintro e_ w5 ⟨rfl,hb⟩;have m0_:=Aside0.mk (HF.out.below hb);have m1_:=Aside0.mk (HK.out.below hb);have m2_:=Aside0.mk (Kd.R_below HO.out hb);have m3_:=Aside0.mk (Kd.F_below HRF.out hb);clear HF HK HO HRF HRW x0 x1 x2 x3 x4 x5 x6 hb;have HF:=m0_;have HK:=m1_;have HO:=m2_;have HRF:=m3_;clear m0_ m1_ m2_ m3_)|fail)
   have hnl:nx.length=n0:=HDI.out.len
   have hle0:nx.getD v 0≤LN:=by rw[HLN.out];exact HDI.out.le v hvn
   obtain⟨SC,hSC⟩: ∃ S,S=scanG ((netG l F D).adm v) ((stL l v l.length).drop (nx.getD v 0)) (nx.getD v 0):=⟨_,rfl⟩
   have HSC:=Aside0.mk hSC
   clear hSC
   have HK5:Aside0 (Ks (fun b=>b=gn) w5 w5):=⟨Ks.refl _ _⟩
   have hsz5:=HF.out.size
   go_loopw [8,9] (fun v8 v9 w'=>v8=u8∧v9= .int .i64 (v:Int)∧ ∃ j:Nat,j≤LN∧Aside0 (nx.getD v 0≤j)∧Aside0 (SC=scanG ((netG l F D).adm v) ((stL l v l.length).drop j) j)∧Aside0 (Fi n0 a0_1 A2 c2 l gF cF A4 c4 gx gd gn w.heap.size F D (nx.set v j) w')∧Aside0 (Ks (fun b=>b=gn) w w')∧Aside0 (Ks (fun b=>b=gn) w5 w')) (fun _ _ w'=>LN - nxAt gn v w')
   case atStart=>exact⟨rfl,rfl,nx.getD v 0,hle0,⟨Nat.le_refl _⟩,HSC,⟨by rw[set_same];exact HF.out⟩,HK,HK5⟩
   case round=>
    clear HF HK HK5
    obtain⟨rfl,rfl,j,hj,HJ0,HSJ,HF,HK,HK5⟩:=hrel
    have hcn:=HF.out.nx.cell (j:=v) (by rw[nI_len,List.length_set,hnl];exact hvn)
    rw[nI_get _ v (by rw[List.length_set,hnl];exact hvn),getD_put nx v j (by rw[hnl];exact hvn)] at hcn
    have HNA:Aside0 (nxAt gn v wr=j):=⟨by rw[nxAt_eq HF.out.nx (by rw[List.length_set,hnl];exact hvn),getD_put nx v j (by rw[hnl];exact hvn)]⟩
    have pv:(0:Int)≤(v:Int):=by omega
    have qv:(v:Int)<(n0:Int):=by omega
    have x0:wr.cell? ⟨gx,0,none⟩=some (.int .i64 (n0:Int)):=(blk_cell HF.out.x 0).trans rfl;have x1:wr.cell? ⟨gx,1,none⟩=some (.bool a0_1):=(blk_cell HF.out.x 1).trans rfl;have x2:wr.cell? ⟨gx,2,none⟩=some (.slice A2 l.length c2):=(blk_cell HF.out.x 2).trans rfl;have x3:wr.cell? ⟨gx,3,none⟩=some (.slice (some ⟨gF,0,none⟩) F.length cF):=(blk_cell HF.out.x 3).trans rfl;have x4:wr.cell? ⟨gx,4,none⟩=some (.slice A4 n0 c4):=(blk_cell HF.out.x 4).trans rfl;have x5:wr.cell? ⟨gx,5,none⟩=some (.slice (some ⟨gd,0,none⟩) n0 n0):=(blk_cell HF.out.x 5).trans rfl;have x6:wr.cell? ⟨gx,6,none⟩=some (.slice (some ⟨gn,0,none⟩) n0 n0):=(blk_cell HF.out.x 6).trans rfl
    by_cases hlt:j<LN
    ·have e2:decide ((j:Int)<(LN:Int))=true:=decide_eq_true (by omega)
     have hrC:=Kd.F_now (Kd.F_step HRF.out (fun b hb hbl=>HK5.out.block b hbl hb.2.2.2.1))
     rw[HLN.out] at hrC
     have pj:(0:Int)≤(j:Int):=by omega
     have qj:(j:Int)<(LN:Int):=by omega
     obtain⟨adj,eadj,hs0,hs1⟩:=at_T38 hrC (j:Int) pj (by rw[← HLN.out];exact qj)
     subst eadj
     simp only[Int.toNat_natCast] at hs0 hs1
     obtain⟨e,hee⟩: ∃ e_,e_=rd_T38 (stL l v l.length) (j:Int):=⟨_,rfl⟩
     rw[← hee] at hs0 hs1
     have hej:(stL l v l.length)[j]? =some e:=by
      rw[hee]
      unfold rd_T38
      rw[Int.toNat_natCast,List.getD_eq_getElem?_getD,List.getElem?_eq_getElem (by rw[← HLN.out];exact hlt)]
      rfl
     have HEJ:=Aside0.mk hej
     clear hee hej hrC
     go_upto_region 8 with fail
     have HN:Aside0 ((wr.alloc (.cells #[.int .i64 e.f0, .bool e.f1] 38)).heap[wr.heap.size]? =some (.cells #[.int .i64 e.f0, .bool e.f1] 38 (0,0))):=⟨heap_alloc_new _ _⟩
     have m0_:=Aside0.mk (HF.out.below (below_alloc (Below.refl _ _) (.cells #[.int .i64 e.f0, .bool e.f1] 38)))
     have m1_:=Aside0.mk (HK.out.below (below_alloc (Below.refl _ _) (.cells #[.int .i64 e.f0, .bool e.f1] 38)))
     have m2_:=Aside0.mk (HK5.out.below (below_alloc (Below.refl _ _) (.cells #[.int .i64 e.f0, .bool e.f1] 38)))
     have HGB:Aside0 (w.heap.size≤wr.heap.size):=⟨HF.out.size⟩
     clear HF HK HK5 x0 x1 x2 x3 x4 x5 x6 hcn hs0 hs1
     have HF:=m0_
     have HK:=m1_
     have HK5:=m2_
     clear m0_ m1_ m2_
     generalize wr.alloc (.cells #[.int .i64 e.f0, .bool e.f1] 38)=w7 at *
     generalize wr.heap.size=g11 at *
     have hso:StepOf l e:=stL_of (List.mem_of_getElem? HEJ.out)
     obtain⟨u,hu⟩: ∃ u_:Nat,stTo l e=(u_:Int):=⟨(stTo l e).toNat,by have:=stTo_in HR.out hso;omega⟩
     have hun:u<n0:=by have:=stTo_in HR.out hso;omega
     have hup:toP l e=u:=by unfold toP;rw[hu,Int.toNat_natCast]
     have hto:=to_f HR.out hso (n0:Int) a0_1
     rw[hu] at hto
     have HTO:=Aside0.mk hto
     have HUP:=Aside0.mk hup
     have HSO:=Aside0.mk hso
     clear hu hup hto hso
     have q0: ∀ p:BelowW w7,p.at_.cell? ⟨gx,0,none⟩=some (.int .i64 (n0:Int)):=fun p=>p.cell ((blk_cell HF.out.x 0).trans rfl)
     have q1: ∀ p:BelowW w7,p.at_.cell? ⟨gx,1,none⟩=some (.bool a0_1):=fun p=>p.cell ((blk_cell HF.out.x 1).trans rfl)
     have q2: ∀ p:BelowW w7,p.at_.cell? ⟨gx,2,none⟩=some (.slice A2 l.length c2):=fun p=>p.cell ((blk_cell HF.out.x 2).trans rfl)
     have q3: ∀ p:BelowW w7,p.at_.cell? ⟨gx,3,none⟩=some (.slice (some ⟨gF,0,none⟩) F.length cF):=fun p=>p.cell ((blk_cell HF.out.x 3).trans rfl)
     have q4: ∀ p:BelowW w7,p.at_.cell? ⟨g11,0,none⟩=some (.int .i64 e.f0):=fun p=>p.cell ((blk_cell HN.out 0).trans rfl)
     have q5: ∀ p:BelowW w7,p.at_.cell? ⟨g11,1,none⟩=some (.bool e.f1):=fun p=>p.cell ((blk_cell HN.out 1).trans rfl)
     have HCA:Aside0 (∀ p:BelowW w7,Kd.C k74 p.at_ A2 l.length l):=⟨fun p=>Kd.C_below HF.out.ca_ p.below⟩
     have HCF:Aside0 (∀ p:BelowW w7,Kd.C (Kd.int .i64) p.at_ (some ⟨gF,0,none⟩) F.length F):=⟨fun p=>Kd.C_below (isI_C HF.out.fl (by have:=HR.out.len;omega)) p.below⟩
     have HC2:=Aside0.mk HF.out.ca
     have HC3:=Aside0.mk HF.out.cf
     refine wp_region_quiet_below (by kernel_rfl) (by kernel_rfl) ?_;(repeat(quiet_step ((first|(go_at_call 105;exact calls_below_of (static_Flowing_To.calls (n0:Int) a0_1 A2 c2 l (some ⟨gF,0,none⟩) cF F e.f0 e.f1 _ _ (HCA.out _) HC2.out (HCF.out _) HC3.out HTO.out))))));refine wpQuiet_nil ?_;intro wq hw';obtain⟨⟨wz,hbq⟩,hwq⟩:=hw';subst hwq
     have m0_:=Aside0.mk (HF.out.below hbq)
     have m1_:=Aside0.mk (HK.out.below hbq)
     have m2_:=Aside0.mk (HK5.out.below hbq)
     have m3_:=Aside0.mk (blk_below HN.out hbq)
     clear HF HK HK5 HN HCA HCF q0 q1 q2 q3 q4 q5 hbq
     have HF:=m0_
     have HK:=m1_
     have HK5:=m2_
     have HN:=m3_
     clear m0_ m1_ m2_ m3_
     obtain⟨rm,hrm⟩: ∃ d_,d_=stRoom l F e:=⟨_,rfl⟩
     have HRM:=Aside0.mk (room_f HR.out HSO.out (n0:Int) a0_1)
     rw[← hrm] at HRM
     have hrm0:0≤rm:=by rw[hrm];exact(stRoom_in HR.out HSO.out).1
     have HRMV:=Aside0.mk hrm
     clear hrm
     obtain⟨du,hdu⟩: ∃ d_,d_=D.getD u 0:=⟨_,rfl⟩
     obtain⟨dv,hdv⟩: ∃ d_,d_=D.getD v 0:=⟨_,rfl⟩
     have hbv:=HDB.out v hvn
     rw[← hdv] at hbv
     obtain⟨d1,hd1⟩: ∃ d_,d_=dv+1:=⟨_,rfl⟩
     have hwr:IntKind.i64.wrap (dv+1)=d1:=by rw[hd1];exact IntWalk.i64_in _ (by omega)
     have HD1:=Aside0.mk hd1
     clear hd1 hbv
     have pu:(0:Int)≤(u:Int):=by omega
     have qu:(u:Int)<(n0:Int):=by omega
     have q0: ∀ p:BelowW wq,p.at_.cell? ⟨gx,0,none⟩=some (.int .i64 (n0:Int)):=fun p=>p.cell ((blk_cell HF.out.x 0).trans rfl)
     have q1: ∀ p:BelowW wq,p.at_.cell? ⟨gx,1,none⟩=some (.bool a0_1):=fun p=>p.cell ((blk_cell HF.out.x 1).trans rfl)
     have q2: ∀ p:BelowW wq,p.at_.cell? ⟨gx,2,none⟩=some (.slice A2 l.length c2):=fun p=>p.cell ((blk_cell HF.out.x 2).trans rfl)
     have q3: ∀ p:BelowW wq,p.at_.cell? ⟨gx,3,none⟩=some (.slice (some ⟨gF,0,none⟩) F.length cF):=fun p=>p.cell ((blk_cell HF.out.x 3).trans rfl)
     have q4: ∀ p:BelowW wq,p.at_.cell? ⟨g11,0,none⟩=some (.int .i64 e.f0):=fun p=>p.cell ((blk_cell HN.out 0).trans rfl)
     have q5: ∀ p:BelowW wq,p.at_.cell? ⟨g11,1,none⟩=some (.bool e.f1):=fun p=>p.cell ((blk_cell HN.out 1).trans rfl)
     have q6: ∀ p:BelowW wq,p.at_.cell? ⟨gx,5,none⟩=some (.slice (some ⟨gd,0,none⟩) n0 n0):=fun p=>p.cell ((blk_cell HF.out.x 5).trans rfl)
     have q7: ∀ p:BelowW wq,p.at_.cell? ⟨gd,u,none⟩=some (.int .i64 du):=fun p=>by rw[hdu];exact p.cell (HF.out.d.cell (by rw[hDl];exact hun))
     have q8: ∀ p:BelowW wq,p.at_.cell? ⟨gd,v,none⟩=some (.int .i64 dv):=fun p=>by rw[hdv];exact p.cell (HF.out.d.cell (by rw[hDl];exact hvn))
     have HCA:Aside0 (∀ p:BelowW wq,Kd.C k74 p.at_ A2 l.length l):=⟨fun p=>Kd.C_below HF.out.ca_ p.below⟩
     have HCF:Aside0 (∀ p:BelowW wq,Kd.C (Kd.int .i64) p.at_ (some ⟨gF,0,none⟩) F.length F):=⟨fun p=>Kd.C_below (isI_C HF.out.fl (by have:=HR.out.len;omega)) p.below⟩
     have HDU:=Aside0.mk hdu
     have HDV:=Aside0.mk hdv
     clear hdu hdv
     have hadm:(netG l F D).adm v e=(decide (du=d1) && decide (0<rm)):=by rw[HD1.out,HDU.out,HDV.out,HRMV.out, ← HUP.out];rfl
     have HADM:=Aside0.mk hadm
     clear hadm
     by_cases h1:du=d1
     ·have e3:(du == d1)=true:=beq_iff_eq.2 h1
      by_cases h2:0<rm
      ·have e4:decide (0<rm)=true:=decide_eq_true h2
       go_upto_region 9 with fail
       refine wp_region_quiet_below (by kernel_rfl) (by kernel_rfl) ?_;(repeat(quiet_step ((first|(go_at_call 104;exact calls_below_of (static_Flowing_Room.calls (n0:Int) a0_1 A2 c2 l (some ⟨gF,0,none⟩) cF F e.f0 e.f1 rm _ (HCA.out _) HC2.out (HCF.out _) HC3.out HRM.out))))));refine wpQuiet_nil ?_;intro wq hw';obtain⟨⟨wz,hbq⟩,hwq⟩:=hw';subst hwq
       have m0_:=Aside0.mk (HF.out.below hbq);have m1_:=Aside0.mk (HK.out.below hbq);have m2_:=Aside0.mk (HK5.out.below hbq);have m3_:=Aside0.mk (blk_below HN.out hbq);clear HF HK HK5 HN HCA HCF q0 q1 q2 q3 q4 q5 q6 q7 q8 hbq;have HF:=m0_;have HK:=m1_;have HK5:=m2_;have HN:=m3_;clear m0_ m1_ m2_ m3_
       have HSC2:Aside0 (SC=some (j,e)):=⟨by
        rw[HSJ.out]
        obtain⟨g1,g2⟩:=List.getElem?_eq_some_iff.1 HEJ.out
        rw[List.drop_eq_getElem_cons g1,g2,scanG,HADM.out,decide_eq_true h1,decide_eq_true h2]
        rfl⟩
       have HO2:Aside0 (Kd.R k38 38 wq w.heap.size (fun b=>w.heap.size≤b) u8 way):=⟨HK5.out.R HO.out (fun b hb _ hbn=>by have:=HF.out.low;omega)⟩
       have b0:wq.cell? ⟨g11,0,none⟩=some (.int .i64 e.f0):=(blk_cell HN.out 0).trans rfl
       have b1:wq.cell? ⟨g11,1,none⟩=some (.bool e.f1):=(blk_cell HN.out 1).trans rfl
       have ha:(netG l F D).adm v e=true:=by rw[HADM.out,decide_eq_true h1,decide_eq_true h2];rfl
       have hwl:way.length≤50:=by
        have h_:=leads_len HG.out.hfr HDI.out.trail HDI.out.adm
        have h_2:=HG.out.hs
        have h_3:(netG l F D).D v=D.getD v 0:=rfl
        have h_4:=(HDB.out v hvn).2
        omega
       clear HO
       go_wp2_with (first|((with_reducible refine gate_builtin (b:= .append) (xs:= #[.tmp 87, .tmp 89]) rfl ?_);at_builtin;refine Kd.R_append k38 (w0:=wq) w.heap.size rfl (.tmp 87) (.tmp 89) 34 38 (.agg #[(.int .i64 0),(.bool false)]) 16 rfl Try.underlying34 info38 rfl (by decide) (by omega) u8 way e [.int .i64 e.f0, .bool e.f1] (fun b=>w.heap.size≤b) (fun _=>False) rfl rfl ?aP (fun _ hk=>hk.elim) ?aF ?aO ?aB ?aS ?aL ?_;(case aP=>exact k38_mkM _ _ _ e);(case aF=>exact(fun k hk=>Nat.le_trans HF.out.size hk));(case aO=>exact HO2.out);(case aB=>exact Below.refl _ _);(case aS=>exact HF.out.size);(case aL=>omega);intro v1 w9 ho hb hg hat;have m0_:=Aside0.mk ho;have m1_:=Aside0.mk (HF.out.keep hb);have m2_:=Aside0.mk (ks_b HK.out hb);clear HO2 HF HK HN HK5 ho hb hg hat b0 b1;have HO2:=m0_;have HF:=m1_;have HK:=m2_;clear m0_ m1_ m2_)|fail)
       have hD:Dn n0 a0_1 A2 c2 l gF cF A4 c4 gx gd gn F D s t R w v1 (.int .i64 (u:Int)) w9 k:=⟨u,way ++ [e],nx.set v j,rfl,by rw[← HUP.out];exact HDI.out.go HG.out HJ0.out HEJ.out ha,by have h_:=downM_go HG.out HDI.out HJ0.out HEJ.out ha;have h_2:=HDM.out;rw[← HUP.out];exact Nat.lt_of_lt_of_le h_ (Nat.le_of_lt_succ h_2),by rw[← HDG.out,downG_go hvt (HSC.out.symm.trans HSC2.out), ← HUP.out];rfl,HO2.out,HF.out,HK.out⟩
       go_roundw
       case rel=>exact⟨k,hD⟩
       case measure=>exact least_lt hD (by rw[← HLE.out];exact Nat.lt_succ_self k)
      ·have e4:decide (0<rm)=false:=decide_eq_false h2
       have H2:=Aside0.mk h2
       clear h2
       go_upto_region 9 with fail
       refine wp_region_quiet_below (by kernel_rfl) (by kernel_rfl) ?_;(repeat(quiet_step ((first|(go_at_call 104;exact calls_below_of (static_Flowing_Room.calls (n0:Int) a0_1 A2 c2 l (some ⟨gF,0,none⟩) cF F e.f0 e.f1 rm _ (HCA.out _) HC2.out (HCF.out _) HC3.out HRM.out))))));refine wpQuiet_nil ?_;intro wq hw';obtain⟨⟨wz,hbq⟩,hwq⟩:=hw';subst hwq
       have m0_:=Aside0.mk (HF.out.below hbq);have m1_:=Aside0.mk (HK.out.below hbq);have m2_:=Aside0.mk (HK5.out.below hbq);have m3_:=Aside0.mk (blk_below HN.out hbq);clear HF HK HK5 HN HCA HCF q0 q1 q2 q3 q4 q5 q6 q7 q8 hbq;have HF:=m0_;have HK:=m1_;have HK5:=m2_;have HN:=m3_;clear m0_ m1_ m2_ m3_
       have HSC2:Aside0 (SC=scanG ((netG l F D).adm v) ((stL l v l.length).drop (j+1)) (j+1)):=⟨by
        rw[HSJ.out]
        obtain⟨g1,g2⟩:=List.getElem?_eq_some_iff.1 HEJ.out
        rw[List.drop_eq_getElem_cons g1,g2,scanG,HADM.out,decide_eq_false H2.out,Bool.and_false]
        rfl⟩
       have x0:wq.cell? ⟨gx,0,none⟩=some (.int .i64 (n0:Int)):=(blk_cell HF.out.x 0).trans rfl;have x1:wq.cell? ⟨gx,1,none⟩=some (.bool a0_1):=(blk_cell HF.out.x 1).trans rfl;have x2:wq.cell? ⟨gx,2,none⟩=some (.slice A2 l.length c2):=(blk_cell HF.out.x 2).trans rfl;have x3:wq.cell? ⟨gx,3,none⟩=some (.slice (some ⟨gF,0,none⟩) F.length cF):=(blk_cell HF.out.x 3).trans rfl;have x4:wq.cell? ⟨gx,4,none⟩=some (.slice A4 n0 c4):=(blk_cell HF.out.x 4).trans rfl;have x5:wq.cell? ⟨gx,5,none⟩=some (.slice (some ⟨gd,0,none⟩) n0 n0):=(blk_cell HF.out.x 5).trans rfl;have x6:wq.cell? ⟨gx,6,none⟩=some (.slice (some ⟨gn,0,none⟩) n0 n0):=(blk_cell HF.out.x 6).trans rfl
       have hcn:=HF.out.nx.cell (j:=v) (by rw[nI_len,List.length_set,hnl];exact hvn)
       rw[nI_get _ v (by rw[List.length_set,hnl];exact hvn),getD_put nx v j (by rw[hnl];exact hvn)] at hcn
       have fcn:=HF.out.nx.free v
       have hwj:IntKind.i64.wrap ((j:Int)+1)=(j:Int)+1:=IntWalk.i64_in _ (by omega)
       go_wp2_with fail
       have hnew:=HF.out.put v (j+1)
       rw[List.set_set,show ((j+1:Nat):Int)=(j:Int)+1 from rfl] at hnew
       go_roundw
       case rel=>exact⟨rfl,rfl,j+1,by omega,⟨by have:=HJ0.out;omega⟩,HSC2,⟨hnew⟩,⟨HK.out.set (g:=gn) (fun _=>rfl) v _⟩,⟨HK5.out.set (g:=gn) (fun _=>rfl) v _⟩⟩
       case measure=>rw[HNA.out];have h_:=nxAt_eq hnew.nx (v:=v) (by rw[List.length_set,hnl];exact hvn);rw[getD_put nx v (j+1) (by rw[hnl];exact hvn)] at h_;rw[h_];omega
     ·have e3:(du == d1)=false:=beq_eq_false_iff_ne.2 h1
      have H1:=Aside0.mk h1
      clear h1
      go_upto_region 9 with fail
      refine wp_region_quiet_below (by kernel_rfl) (by kernel_rfl) ?_;(repeat(quiet_step ((first|(go_at_call 104;exact calls_below_of (static_Flowing_Room.calls (n0:Int) a0_1 A2 c2 l (some ⟨gF,0,none⟩) cF F e.f0 e.f1 rm _ (HCA.out _) HC2.out (HCF.out _) HC3.out HRM.out))))));refine wpQuiet_nil ?_;intro wq hw';obtain⟨⟨wz,hbq⟩,hwq⟩:=hw';subst hwq
      have m0_:=Aside0.mk (HF.out.below hbq);have m1_:=Aside0.mk (HK.out.below hbq);have m2_:=Aside0.mk (HK5.out.below hbq);have m3_:=Aside0.mk (blk_below HN.out hbq);clear HF HK HK5 HN HCA HCF q0 q1 q2 q3 q4 q5 q6 q7 q8 hbq;have HF:=m0_;have HK:=m1_;have HK5:=m2_;have HN:=m3_;clear m0_ m1_ m2_ m3_
      have HSC2:Aside0 (SC=scanG ((netG l F D).adm v) ((stL l v l.length).drop (j+1)) (j+1)):=⟨by
       rw[HSJ.out]
       obtain⟨g1,g2⟩:=List.getElem?_eq_some_iff.1 HEJ.out
       rw[List.drop_eq_getElem_cons g1,g2,scanG,HADM.out,decide_eq_false H1.out,Bool.false_and]
       rfl⟩
      have x0:wq.cell? ⟨gx,0,none⟩=some (.int .i64 (n0:Int)):=(blk_cell HF.out.x 0).trans rfl;have x1:wq.cell? ⟨gx,1,none⟩=some (.bool a0_1):=(blk_cell HF.out.x 1).trans rfl;have x2:wq.cell? ⟨gx,2,none⟩=some (.slice A2 l.length c2):=(blk_cell HF.out.x 2).trans rfl;have x3:wq.cell? ⟨gx,3,none⟩=some (.slice (some ⟨gF,0,none⟩) F.length cF):=(blk_cell HF.out.x 3).trans rfl;have x4:wq.cell? ⟨gx,4,none⟩=some (.slice A4 n0 c4):=(blk_cell HF.out.x 4).trans rfl;have x5:wq.cell? ⟨gx,5,none⟩=some (.slice (some ⟨gd,0,none⟩) n0 n0):=(blk_cell HF.out.x 5).trans rfl;have x6:wq.cell? ⟨gx,6,none⟩=some (.slice (some ⟨gn,0,none⟩) n0 n0):=(blk_cell HF.out.x 6).trans rfl
      have hcn:=HF.out.nx.cell (j:=v) (by rw[nI_len,List.length_set,hnl];exact hvn)
      rw[nI_get _ v (by rw[List.length_set,hnl];exact hvn),getD_put nx v j (by rw[hnl];exact hvn)] at hcn
      have fcn:=HF.out.nx.free v
      have hwj:IntKind.i64.wrap ((j:Int)+1)=(j:Int)+1:=IntWalk.i64_in _ (by omega)
      go_wp2_with fail
      have hnew:=HF.out.put v (j+1)
      rw[List.set_set,show ((j+1:Nat):Int)=(j:Int)+1 from rfl] at hnew
      go_roundw
      case rel=>exact⟨rfl,rfl,j+1,by omega,⟨by have:=HJ0.out;omega⟩,HSC2,⟨hnew⟩,⟨HK.out.set (g:=gn) (fun _=>rfl) v _⟩,⟨HK5.out.set (g:=gn) (fun _=>rfl) v _⟩⟩
      case measure=>rw[HNA.out];have h_:=nxAt_eq hnew.nx (v:=v) (by rw[List.length_set,hnl];exact hvn);rw[getD_put nx v (j+1) (by rw[hnl];exact hvn)] at h_;rw[h_];omega
    ·have e2:decide ((j:Int)<(LN:Int))=false:=decide_eq_false (by omega)
     have hjl:j=LN:=by omega
     have HSN:Aside0 (SC=none):=⟨by rw[HSJ.out,List.drop_of_length_le (by rw[← HLN.out];omega)];rfl⟩
     by_cases hvs:v=s
     ·have e5:((v:Int) == (s:Int))=true:=by rw[hvs];simp
      have HR2:Aside0 (R=(none,nx.set v j)):=⟨by
       have h_:=HDG.out
       rw[← hvs,downG_out hvt (HSC.out.symm.trans HSN.out)] at h_
       rw[← h_,hjl,HLN.out]
       rfl⟩
      clear hvs
      go_wp2_with fail
      rw[Exit.noGoto_ret]
      go_ret2
      rw[HR2.out]
      exact⟨_,rfl,fun L hL=>(by cases hL),HF.out,HK.out⟩
     ·have e5:((v:Int) == (s:Int))=false:=beq_eq_false_iff_ne.2 (by omega)
      have HVS:=Aside0.mk hvs
      clear hvs
      have hwne:way≠[]:=by
       intro hw0
       have h_:=HDI.out.trail
       rw[hw0] at h_
       exact HVS.out h_.symm
      obtain⟨e,he⟩: ∃ e_,way.getLast? =some e_:=⟨_,List.getLast?_eq_some_getLast hwne⟩
      obtain⟨q1,q2,_,_,q5,q6⟩:=HDI.out.back HG.out he
      have hbk:=downM_back HG.out HDI.out he
      have hdb:=downG_back (k:=k) hvt HVS.out (HSC.out.symm.trans HSN.out) he
      have hat:=HDI.out.at_ e q6
      have hso:StepOf l e:=stL_of (List.mem_of_getElem? hat)
      have hatl:=(List.getElem?_eq_some_iff.1 hat).1
      have ej:((netG l F D).rows v).length=j:=by rw[hjl,HLN.out];rfl
      rw[ej] at q1 hbk hdb
      obtain⟨fr,hfr⟩: ∃ f_,f_=frP l e:=⟨_,rfl⟩
      have hfre:(netG l F D).fr e=fr:=hfr.symm
      rw[hfre] at q1 q2 q5 hbk hdb hatl
      obtain⟨y,hy⟩: ∃ y_,y_=(nx.set v j).getD fr 0:=⟨_,rfl⟩
      rw[← hy] at q1 hbk hdb
      have hyl:y≤400:=by
       have h_:=getD_setN nx v j fr (by rw[hnl];exact hvn)
       rw[if_neg q2] at h_
       have h_2:=stL_len l fr l.length
       have h_3:((netG l F D).rows fr).length=(stL l fr l.length).length:=rfl
       omega
      have hff:=stFrom_in HR.out hso
      have hfm:=fromS_f HR.out hso (n0:Int) a0_1
      have hfi:stFrom l e=(fr:Int):=by rw[hfr];unfold frP;omega
      rw[hfi] at hfm
      have HFM:=Aside0.mk hfm
      have HQ1:=Aside0.mk q1
      have HBK:=Aside0.mk hbk
      have HDB2:=Aside0.mk hdb
      have HY:=Aside0.mk hy
      have HE:=Aside0.mk he
      have HO2:Aside0 (Kd.R k38 38 wr w.heap.size (fun b=>w.heap.size≤b) u8 way):=⟨HK5.out.R HO.out (fun b hb _ hbn=>by have:=HF.out.low;omega)⟩
      have hwl:way.length≤50:=by
       have h_:=leads_len HG.out.hfr HDI.out.trail HDI.out.adm
       have h_2:=HG.out.hs
       have h_3:(netG l F D).D v=D.getD v 0:=rfl
       have h_4:=(HDB.out v hvn).2
       omega
      clear q1 hbk hdb hat hatl hso hff hfi hfm hfre hfr hy he q6 ej HO
      obtain⟨Aw,cw,ew⟩:=Kd.R_slice HO2.out
      subst ew
      have hCw:=(Kd.R_reads' HO2.out).2.2
      have hcw:=(Kd.R_reads' HO2.out).2.1
      obtain⟨m,hm⟩: ∃ m,way.length=m+1:=⟨way.length - 1,by have:=List.length_pos_iff.2 hwne;omega⟩
      have pm:(0:Int)≤(m:Int):=by omega
      have qm:(m:Int)<(way.length:Int):=by omega
      obtain⟨aw,eaw,hs0,hs1⟩:=at_T38 hCw (m:Int) pm qm
      subst eaw
      simp only[Int.toNat_natCast] at hs0 hs1
      have hee:rd_T38 way (m:Int)=e:=by
       have h_:=HE.out
       rw[List.getLast?_eq_getElem?,hm,Nat.add_sub_cancel] at h_
       unfold rd_T38
       rw[Int.toNat_natCast,List.getD_eq_getElem?_getD,h_]
       rfl
      rw[hee] at hs0 hs1
      clear hee hCw
      have hwm:IntKind.i64.wrap ((way.length:Int) - 1)=(m:Int):=by rw[hm];have h_:=IntWalk.i64_in ((m:Int)) (by omega);rw[← h_];congr 1;omega
      have hwm2:IntKind.i64.wrap ((way.length:Int)+ -1)=(m:Int):=by rw[hm];have h_:=IntWalk.i64_in ((m:Int)) (by omega);rw[← h_];congr 1;omega
      have HM:=Aside0.mk hm
      clear hm
      go_upto_region 15 with fail
      clear hcn x0 x1 x2 x3 x4 x5 x6
      have q0: ∀ p:BelowW wr,p.at_.cell? ⟨gx,0,none⟩=some (.int .i64 (n0:Int)):=fun p=>p.cell ((blk_cell HF.out.x 0).trans rfl)
      have q1: ∀ p:BelowW wr,p.at_.cell? ⟨gx,1,none⟩=some (.bool a0_1):=fun p=>p.cell ((blk_cell HF.out.x 1).trans rfl)
      have q2_: ∀ p:BelowW wr,p.at_.cell? ⟨gx,2,none⟩=some (.slice A2 l.length c2):=fun p=>p.cell ((blk_cell HF.out.x 2).trans rfl)
      have q3: ∀ p:BelowW wr,p.at_.cell? ⟨gx,3,none⟩=some (.slice (some ⟨gF,0,none⟩) F.length cF):=fun p=>p.cell ((blk_cell HF.out.x 3).trans rfl)
      have q4: ∀ p:BelowW wr,p.at_.cell? (aw.add (m * 2))=some (.int .i64 e.f0):=fun p=>p.cell hs0
      have q6: ∀ p:BelowW wr,p.at_.cell? ⟨(aw.add (m * 2)).block,(aw.add (m * 2)).off+1,none⟩=some (.bool e.f1):=fun p=>p.cell hs1
      have HCA:Aside0 (∀ p:BelowW wr,Kd.C k74 p.at_ A2 l.length l):=⟨fun p=>Kd.C_below HF.out.ca_ p.below⟩
      have HCF:Aside0 (∀ p:BelowW wr,Kd.C (Kd.int .i64) p.at_ (some ⟨gF,0,none⟩) F.length F):=⟨fun p=>Kd.C_below (isI_C HF.out.fl (by have:=HR.out.len;omega)) p.below⟩
      have HC2:=Aside0.mk HF.out.ca
      have HC3:=Aside0.mk HF.out.cf
      clear hs0 hs1
      refine wp_region_quiet_below (by kernel_rfl) (by kernel_rfl) ?_;(repeat(quiet_step ((first|(go_at_call 106;exact calls_below_of (static_Flowing_From.calls (n0:Int) a0_1 A2 c2 l (some ⟨gF,0,none⟩) cF F e.f0 e.f1 (fr:Int) _ (HCA.out _) HC2.out (HCF.out _) HC3.out HFM.out))))));refine wpQuiet_nil ?_;intro wq hw';obtain⟨⟨wz,hbq⟩,hwq⟩:=hw';subst hwq
      have m0_:=Aside0.mk (HF.out.below hbq)
      have m1_:=Aside0.mk (HK.out.below hbq)
      have m2_:=Aside0.mk (Kd.R_below HO2.out hbq)
      clear HF HK HK5 HO2 HCA HCF q0 q1 q2_ q3 q4 q6 hbq
      have HF:=m0_
      have HK:=m1_
      have HO2:=m2_
      clear m0_ m1_ m2_
      have x0:wq.cell? ⟨gx,0,none⟩=some (.int .i64 (n0:Int)):=(blk_cell HF.out.x 0).trans rfl;have x1:wq.cell? ⟨gx,1,none⟩=some (.bool a0_1):=(blk_cell HF.out.x 1).trans rfl;have x2:wq.cell? ⟨gx,2,none⟩=some (.slice A2 l.length c2):=(blk_cell HF.out.x 2).trans rfl;have x3:wq.cell? ⟨gx,3,none⟩=some (.slice (some ⟨gF,0,none⟩) F.length cF):=(blk_cell HF.out.x 3).trans rfl;have x4:wq.cell? ⟨gx,4,none⟩=some (.slice A4 n0 c4):=(blk_cell HF.out.x 4).trans rfl;have x5:wq.cell? ⟨gx,5,none⟩=some (.slice (some ⟨gd,0,none⟩) n0 n0):=(blk_cell HF.out.x 5).trans rfl;have x6:wq.cell? ⟨gx,6,none⟩=some (.slice (some ⟨gn,0,none⟩) n0 n0):=(blk_cell HF.out.x 6).trans rfl
      have hcn:=HF.out.nx.cell (j:=fr) (by rw[nI_len,List.length_set,hnl];exact q5)
      rw[nI_get _ fr (by rw[List.length_set,hnl];exact q5), ← HY.out] at hcn
      have fcn:=HF.out.nx.free fr
      have hwj:IntKind.i64.wrap ((y:Int)+1)=(y:Int)+1:=IntWalk.i64_in _ (by omega)
      have pf:(0:Int)≤(fr:Int):=by omega
      have qf:(fr:Int)<(n0:Int):=by omega
      go_wp2_with fail
      have hnew:=HF.out.put fr (y+1)
      rw[show ((y+1:Nat):Int)=(y:Int)+1 from rfl] at hnew
      have hrt:=Kd.R_take HO2.out (m:=m) (by have:=HM.out;omega)
      rw[show way.take m=way.dropLast by rw[List.dropLast_eq_take,HM.out,Nat.add_sub_cancel]] at hrt
      have hlow:=HF.out.low
      have hD:Dn n0 a0_1 A2 c2 l gF cF A4 c4 gx gd gn F D s t R w (.slice (some aw) m cw) (.int .i64 (fr:Int)) (wq.setCell ⟨gn,fr,none⟩ (.int .i64 ((y:Int)+1))) k:=⟨fr,way.dropLast,(nx.set v j).set fr (y+1),rfl,HQ1.out,by have h_:=HBK.out;have h_2:=HDM.out;omega,by rw[← HDB2.out];exact HDG.out,Kd.R_far hrt (p:=⟨gn,fr,none⟩) (fun b hb hbn=>by have hbn:b=gn:=hbn;omega) _,hnew,HK.out.set (g:=gn) (fun _=>rfl) fr _⟩
      go_roundw
      case rel=>exact⟨k,hD⟩
      case measure=>exact least_lt hD (by rw[← HLE.out];exact Nat.lt_succ_self k)
end Go.Proofs.Ytkcpanpdipmmmaa.H
namespace Go.Proofs.Ytkcpanpdipmmmaa.H
open Go.RowKit Go.Proofs.YtkcpanpdipmmmaaW.PrintWords Go.Proofs.YtkcpanpdipmmmaaW.PrintLast Go.Proofs.YtkcpanpdipmmmaaW.PrintMore Go.Proofs.Ytkcpanpdipmmmaa.P
structure Fo (n0:Nat) (a0_1:Bool) (A2:Option Addr) (c2:Nat) (l:List S74) (gF cF:Nat) (A4:Option Addr) (c4 gx gn B:Nat) (vd:Value) (F:List Int) (nx:List Nat) (w:World):Prop where
 x:w.heap[gx]? =some (.cells #[.int .i64 (n0:Int), .bool a0_1, .slice A2 l.length c2, .slice (some ⟨gF,0,none⟩) F.length cF, .slice A4 n0 c4,vd, .slice (some ⟨gn,0,none⟩) n0 n0] 184 (0,0))
 nx:IsI w gn (nI nx)
 fl:IsI w gF F
 arcs:Kd.F k74 w (fun k=>k<B∧k≠gF∧k≠gn∧k≠gx) A2 l.length l
 rows:Kd.F (Kd.slice 38 k38) w (fun k=>k<B∧k≠gF∧k≠gn∧k≠gx) A4 n0 (rowsAt l n0 n0)
 size:B≤w.heap.size
 low:gx<B∧gn<B∧gF<B
 apart:gx≠gn∧gx≠gF∧gn≠gF
 ca:l.length≤c2
 cf:F.length≤cF
section
variable {n0:Nat} {a0_1:Bool} {A2:Option Addr} {c2:Nat} {l:List S74} {gF cF:Nat} {A4:Option Addr} {c4 gx gd gn B B':Nat} {vd vd':Value} {F D:List Int} {nx nx':List Nat} {w w1:World}
theorem Fo.keep (h:Fo n0 a0_1 A2 c2 l gF cF A4 c4 gx gn B vd F nx w) (hb:Below B w w1):Fo n0 a0_1 A2 c2 l gF cF A4 c4 gx gn B vd F nx w1:=
 ⟨(hb.block _ h.low.1).trans h.x,h.nx.same (hb.block _ h.low.2.1),h.fl.same (hb.block _ h.low.2.2),Kd.F_step h.arcs (fun k hk _=>hb.block k hk.1),Kd.F_step h.rows (fun k hk _=>hb.block k hk.1),Nat.le_trans h.size hb.size,h.low,h.apart,h.ca,h.cf⟩
theorem Fo.below (h:Fo n0 a0_1 A2 c2 l gF cF A4 c4 gx gn B vd F nx w) (hb:Below w.heap.size w w1):Fo n0 a0_1 A2 c2 l gF cF A4 c4 gx gn B vd F nx w1:=h.keep (below_low h.size hb)
theorem Fo.ca_ (h:Fo n0 a0_1 A2 c2 l gF cF A4 c4 gx gn B vd F nx w):Kd.C k74 w A2 l.length l:=Kd.F_now h.arcs
theorem Fo.cr_ (h:Fo n0 a0_1 A2 c2 l gF cF A4 c4 gx gn B vd F nx w):(Kd.slice 38 k38).C w A4 n0 (rowsAt l n0 n0):=Kd.F_now h.rows
theorem Fo.putD (h:Fo n0 a0_1 A2 c2 l gF cF A4 c4 gx gn B vd F nx w) (v:Value):Fo n0 a0_1 A2 c2 l gF cF A4 c4 gx gn B v F nx (w.setCell ⟨gx,5,none⟩ v):=
 ⟨(blk_set h.x 5 v).trans rfl,h.nx.far (p:=⟨gx,5,none⟩) (Ne.symm h.apart.1) _,h.fl.far (p:=⟨gx,5,none⟩) (Ne.symm h.apart.2.1) _,
  Kd.F_far h.arcs (p:=⟨gx,5,none⟩) (fun k hk=>hk.2.2.2) _,Kd.F_far h.rows (p:=⟨gx,5,none⟩) (fun k hk=>hk.2.2.2) _,by simpa [World.setCell] using h.size,h.low,h.apart,h.ca,h.cf⟩
theorem Fo.putN (h:Fo n0 a0_1 A2 c2 l gF cF A4 c4 gx gn B vd F nx w) (hk:Ks (fun b=>b=gn) w w1) (hn:IsI w1 gn (nI nx')):Fo n0 a0_1 A2 c2 l gF cF A4 c4 gx gn B vd F nx' w1:=
 ⟨(hk.block _ (blk_lt h.x) h.apart.1).trans h.x,hn,h.fl.same (hk.block _ h.fl.lt (Ne.symm h.apart.2.2)),Kd.F_step h.arcs (fun k hk2 hlt=>hk.block k hlt hk2.2.2.1),Kd.F_step h.rows (fun k hk2 hlt=>hk.block k hlt hk2.2.2.1),Nat.le_trans h.size hk.size,h.low,h.apart,h.ca,h.cf⟩
theorem Fo.putF (h:Fo n0 a0_1 A2 c2 l gF cF A4 c4 gx gn B vd F nx w) (hk:Ks (fun b=>b=gF) w w1) {G:List Int} (hg:IsI w1 gF G) (hl:G.length=F.length):Fo n0 a0_1 A2 c2 l gF cF A4 c4 gx gn B vd G nx w1:=by
 refine⟨?_,h.nx.same (hk.block _ h.nx.lt h.apart.2.2),hg,Kd.F_step h.arcs (fun k hk2 hlt=>hk.block k hlt hk2.2.1),Kd.F_step h.rows (fun k hk2 hlt=>hk.block k hlt hk2.2.1),Nat.le_trans h.size hk.size,h.low,h.apart,h.ca,by rw[hl];exact h.cf⟩
 rw[hl]
 exact(hk.block _ (blk_lt h.x) h.apart.2.1).trans h.x
theorem Fo.fi (h:Fo n0 a0_1 A2 c2 l gF cF A4 c4 gx gn B (.slice (some ⟨gd,0,none⟩) n0 n0) F nx w) (hd:IsI w gd D) (hB:B≤gd) (hB':gd<B') (hw:B'≤w.heap.size):Fi n0 a0_1 A2 c2 l gF cF A4 c4 gx gd gn B' F D nx w:=by
 have hl:=h.low
 have hp:=h.apart
 exact⟨h.x,hd,h.nx,h.fl,Kd.F_mono h.arcs (fun k hk=>⟨by omega,hk.2.1,by omega,hk.2.2.1,hk.2.2.2⟩),Kd.F_mono h.rows (fun k hk=>⟨by omega,hk.2.1,by omega,hk.2.2.1,hk.2.2.2⟩),hw,⟨by omega,hB',by omega,by omega⟩,⟨by omega,hp.1,hp.2.1,by omega,by omega,hp.2.2⟩,h.ca,h.cf⟩
theorem Fo.ofFi (h:Fo n0 a0_1 A2 c2 l gF cF A4 c4 gx gn B (.slice (some ⟨gd,0,none⟩) n0 n0) F nx w) (hk:Ks (fun b=>b=gn) w w1) {C:Nat} (hf:Fi n0 a0_1 A2 c2 l gF cF A4 c4 gx gd gn C F D nx' w1):Fo n0 a0_1 A2 c2 l gF cF A4 c4 gx gn B (.slice (some ⟨gd,0,none⟩) n0 n0) F nx' w1:=h.putN hk hf.nx
end
theorem isI_clear {g:Nat} (m:Nat): ∀ {w:World} {X:List Int} (o:Nat),o+m=X.length→IsI w g X→IsI (w.setCells g o (List.replicate m (.int .i64 0))) g (X.take o ++ List.replicate m 0)∧Ks (fun b=>b=g) w (w.setCells g o (List.replicate m (.int .i64 0))):=by
 induction m with
 |zero=>
  intro w X o ho h
  rw[List.replicate_zero,List.replicate_zero,List.append_nil,List.take_of_length_le (by omega)]
  exact⟨h,Ks.refl _ _⟩
 |succ m ih=>
  intro w X o ho h
  obtain⟨h1,h2⟩:=ih (o+1) (by rw[List.length_set];omega) (h.put o 0)
  have e:(X.set o 0).take (o+1)=X.take o ++ [0]:=by
   apply List.ext_getElem?
   intro i
   rw[List.getElem?_take,List.getElem?_set,List.getElem?_append,List.length_take,List.getElem?_take]
   have hm:min o X.length=o:=by omega
   rw[hm]
   by_cases a:i<o
   ·rw[if_pos (by omega),if_neg (by omega),if_pos a,if_pos a]
   ·by_cases b:i=o
    ·subst b;rw[if_pos (by omega),if_pos rfl,if_pos (by omega),if_neg a,Nat.sub_self];rfl
    ·rw[if_neg (by omega),if_neg a,List.getElem?_eq_none (by simp;omega)]
  rw[e,List.append_assoc] at h1
  refine⟨h1,?_⟩
  exact((Ks.refl (fun b=>b=g) w).set (g:=g) (fun _=>rfl) o _).trans h2 (fun b hb _=>hb)
end Go.Proofs.Ytkcpanpdipmmmaa.H
namespace Go.Proofs.Ytkcpanpdipmmmaa.H
open Go.RowKit Go.Proofs.YtkcpanpdipmmmaaW.PrintWords Go.Proofs.YtkcpanpdipmmmaaW.PrintLast Go.Proofs.YtkcpanpdipmmmaaW.PrintMore Go.Proofs.Ytkcpanpdipmmmaa.P
open Go.Proofs.Ytkcpanpdipmmmaa.Q (bal)
theorem zero3 (w:World):(zeroValue 3).run Try.prog w= .ok (.int .i64 0) w:=by kernel_rfl
theorem pushW_snoc (F:List Int) (k:Int) (L:List S38) (e:S38):pushW F k (L ++ [e])=goS (pushW F k L) e k:=by unfold pushW;rw[List.foldl_append];rfl
theorem Right.take {l:List S74} {F:List Int} {n:Nat} {k:Int} (h0:0≤k) (hr:Right l F n) {L:List S38} (h: ∀ s,s∈L→StepOf l s∧k≤stRoom l F s) (hp:L.Pairwise (fun a b=>a.f0≠b.f0)) (j:Nat):Right l (H.pushW F k (L.take j)) n:=
 Right.pushW h0 _ hr (fun s hs=>h s (List.mem_of_mem_take hs)) (hp.sublist (List.take_sublist _ _))
theorem take_snoc {L:List S38} {j:Nat} {e:S38} (h:L[j]? =some e):L.take (j+1)=L.take j ++ [e]:=by
 rw[List.take_add_one,h];rfl
theorem ks_cellF {gF g j:Nat} {w w1:World} {v:Value} (h:Ks (fun b=>b=gF) w w1) (hc:w.cell? ⟨g,j,none⟩=some v) (hne: ¬ g=gF):w1.cell? ⟨g,j,none⟩=some v:=by
 have hb:=h.block g (World.block_lt_of_cell? w _ hc) hne
 simpa [World.cell?,hb] using hc
def Ps (n0:Nat) (a0_1:Bool) (A2:Option Addr) (c2:Nat) (l:List S74) (gF cF:Nat) (A4:Option Addr) (c4 gx gn B gd:Nat) (D:List Int) (s t:Nat) (R:List Int) (w w':World) (k:Nat):Prop:=
 ∃ (F:List Int) (nx:List Nat),IsFlow l F n0 s t∧NxOk l n0 nx∧209715200<(k:Int)+bal l F s∧phaseF l D s t k F nx=R∧Fo n0 a0_1 A2 c2 l gF cF A4 c4 gx gn B (.slice (some ⟨gd,0,none⟩) n0 n0) F nx w'∧IsI w' gd D∧Ks (fun b=>b=gx∨b=gF∨b=gn) w w'
set_option maxHeartbeats 20000000 in
set_option maxRecDepth 100000 in
theorem phase_calls (n0:Nat) (a0_1:Bool) (A2:Option Addr) (c2:Nat) (l:List S74) (gF cF:Nat) (A4:Option Addr) (c4 gx gn:Nat) (vd:Value) (F:List Int) (s t:Nat) (nx0:List Nat) (w:World)
  (hf:IsFlow l F n0 s t) (hb0:0≤bal l F s) (hs:s<n0) (ht:t<n0) (hst:s≠t) (hn:nx0.length=n0) (h:Fo n0 a0_1 A2 c2 l gF cF A4 c4 gx gn w.heap.size vd F nx0 w):
  Calls Try.prog 168 #[.pointer (some ⟨gx,0,none⟩), .int .i64 (s:Int), .int .i64 (t:Int)] w fun e w'=> ∃ (vd':Value) (nx':List Nat),e= .returned (.bool (!decide ((dOf n0 (bfP l F n0 s)).getD t 0<0)))∧nx'.length=n0∧
   Fo n0 a0_1 A2 c2 l gF cF A4 c4 gx gn w.heap.size vd' (if (dOf n0 (bfP l F n0 s)).getD t 0<0 then F else phaseF l (dOf n0 (bfP l F n0 s)) s t 300000000 F (List.replicate n0 0)) nx' w'∧Ks (fun b=>b=gx∨b=gF∨b=gn) w w':=by
 have hu118:=Try.underlying118
 have hu184:=Try.underlying184
 have hu115:=Try.underlying115
 have hu38:=Try.underlying38
 have hr:=hf.right
 have hn50:=hr.fifty
 have hpos:=hr.pos
 have hDlen:(dOf n0 (bfP l F n0 s)).length=n0:=dOf_len n0 _
 have hfine:=netG_fine (F:=F) hr hs
 have hDb: ∀ v,v<n0→ -1≤(dOf n0 (bfP l F n0 s)).getD v 0∧(dOf n0 (bfP l F n0 s)).getD v 0≤50:=by
  intro v hv
  have h1:=hfine.hD v hv
  refine⟨?_,by have h1:(dOf n0 (bfP l F n0 s)).getD v 0<(n0:Int):=h1;omega⟩
  rw[dOf_get _ 0 hv]
  cases hf:fnd (bfP l F n0 s) v with
  |none=>simp only;omega
  |some x=>simp only;omega
 have hfineG: ∀ G:List Int,(netG l G (dOf n0 (bfP l F n0 s))).Fine s n0:=fun G=>netG_fine (F:=G) hr hs
 have hpush: ∀ {G:List Int} {L:List S38},IsFlow l G n0 s t→Leads (toP l) (fun v=>stL l v l.length) s L t→(∀ e,e∈L→(netG l G (dOf n0 (bfP l F n0 s))).adm (frP l e) e=true)→
   IsFlow l (pushW G (leastR l G L) L) n0 s t∧1≤leastR l G L∧L≠[]∧bal l (pushW G (leastR l G L) L) s=bal l G s+leastR l G L∧L.Pairwise (fun a b=>a.f0≠b.f0)∧(∀ s,s∈L→StepOf l s)∧leastR l G L≤1048576:=fun hG hL ha=>push_found hG hr hs hst hL ha
 obtain⟨D,hD⟩: ∃ D_,D_=dOf n0 (bfP l F n0 s):=⟨_,rfl⟩
 have HFIN:Aside0 (∀ G:List Int,(netG l G D).Fine s n0):=⟨by rw[hD];exact hfineG⟩
 have HPUSH:Aside0 (∀ {G:List Int} {L:List S38},IsFlow l G n0 s t→Leads (toP l) (fun v=>stL l v l.length) s L t→(∀ e,e∈L→(netG l G D).adm (frP l e) e=true)→
   IsFlow l (pushW G (leastR l G L) L) n0 s t∧1≤leastR l G L∧L≠[]∧bal l (pushW G (leastR l G L) L) s=bal l G s+leastR l G L∧L.Pairwise (fun a b=>a.f0≠b.f0)∧(∀ s,s∈L→StepOf l s)∧leastR l G L≤1048576):=⟨by rw[hD];exact hpush⟩
 rw[← hD] at hDlen hDb
 have HDE:=Aside0.mk hD
 have HDB:=Aside0.mk hDb
 have HFL:=Aside0.mk hf
 have HB0:=Aside0.mk hb0
 have HR:=Aside0.mk hr
 have HF:=Aside0.mk h
 rw[← hD]
 clear hf hb0 hr hfine hDb hfineG hpush hD h
 obtain⟨y,hy⟩: ∃ y_,y_=D.getD t 0:=⟨_,rfl⟩
 rw[← hy]
 have HY:=Aside0.mk hy
 clear hy
 have pt:(0:Int)≤(t:Int):=by omega
 have qt:(t:Int)<(n0:Int):=by omega
 go_enter Try.func168,Try.ntmps168
 have x0:w.cell? ⟨gx,0,none⟩=some (.int .i64 (n0:Int)):=(blk_cell HF.out.x 0).trans rfl;have x1:w.cell? ⟨gx,1,none⟩=some (.bool a0_1):=(blk_cell HF.out.x 1).trans rfl;have x2:w.cell? ⟨gx,2,none⟩=some (.slice A2 l.length c2):=(blk_cell HF.out.x 2).trans rfl;have x3:w.cell? ⟨gx,3,none⟩=some (.slice (some ⟨gF,0,none⟩) F.length cF):=(blk_cell HF.out.x 3).trans rfl;have x4:w.cell? ⟨gx,4,none⟩=some (.slice A4 n0 c4):=(blk_cell HF.out.x 4).trans rfl;have x6:w.cell? ⟨gx,6,none⟩=some (.slice (some ⟨gn,0,none⟩) n0 n0):=(blk_cell HF.out.x 6).trans rfl
 go_upto_region 2 with (first|(go_at_call 108;refine(far_calls n0 a0_1 A2 c2 l (some ⟨gF,0,none⟩) cF F A4 c4 s _ HR.out hs HF.out.ca HF.out.cf HF.out.ca_ (isI_C HF.out.fl (by have:=HR.out.len;have:=HR.out.arcs;omega)) HF.out.cr_).mono ?_;rintro e_ w5 ⟨gd,rfl,hge,hd,hb⟩;have m0_:=Aside0.mk (HF.out.below hb);have HGE:=Aside0.mk hge;have HD5:=Aside0.mk hd;have HB5:=Aside0.mk hb;clear HF hge hd hb x0 x1 x2 x3 x4 x6;have HF:=m0_;clear m0_;have y5:w5.cell? ⟨gx,5,none⟩=some vd:=(blk_cell HF.out.x 5).trans rfl;have f5:=blk_frozen HF.out.x 5)|fail)
 have hDb5:=HD5.out
 rw[← HDE.out] at hDb5
 have hlow:=HF.out.low
 have HFD:Aside0 (Fo n0 a0_1 A2 c2 l gF cF A4 c4 gx gn w.heap.size (.slice (some ⟨gd,0,none⟩) n0 n0) F nx0 (w5.setCell ⟨gx,5,none⟩ (.slice (some ⟨gd,0,none⟩) n0 n0))):=⟨HF.out.putD _⟩
 have HDI:Aside0 (IsI (w5.setCell ⟨gx,5,none⟩ (.slice (some ⟨gd,0,none⟩) n0 n0)) gd D):=⟨hDb5.far (p:=⟨gx,5,none⟩) (by have:=HGE.out;show gd≠gx;omega) _⟩
 have HK:Aside0 (Ks (fun b=>b=gx∨b=gF∨b=gn) w (w5.setCell ⟨gx,5,none⟩ (.slice (some ⟨gd,0,none⟩) n0 n0))):=⟨(Ks.of_below HB5.out _).set (g:=gx) (fun _=> .inl rfl) 5 _⟩
 have HGD:=HGE
 have HSZ:Aside0 (gd<(w5.setCell ⟨gx,5,none⟩ (.slice (some ⟨gd,0,none⟩) n0 n0)).heap.size):=⟨HDI.out.lt⟩
 clear HF HD5 HB5 hDb5 y5 f5 HGE
 generalize w5.setCell ⟨gx,5,none⟩ (.slice (some ⟨gd,0,none⟩) n0 n0)=w6 at *
 have HF:=HFD
 clear HFD
 have x0:w6.cell? ⟨gx,0,none⟩=some (.int .i64 (n0:Int)):=(blk_cell HF.out.x 0).trans rfl;have x1:w6.cell? ⟨gx,1,none⟩=some (.bool a0_1):=(blk_cell HF.out.x 1).trans rfl;have x2:w6.cell? ⟨gx,2,none⟩=some (.slice A2 l.length c2):=(blk_cell HF.out.x 2).trans rfl;have x3:w6.cell? ⟨gx,3,none⟩=some (.slice (some ⟨gF,0,none⟩) F.length cF):=(blk_cell HF.out.x 3).trans rfl;have x4:w6.cell? ⟨gx,4,none⟩=some (.slice A4 n0 c4):=(blk_cell HF.out.x 4).trans rfl;have x6:w6.cell? ⟨gx,6,none⟩=some (.slice (some ⟨gn,0,none⟩) n0 n0):=(blk_cell HF.out.x 6).trans rfl
 have x5:w6.cell? ⟨gx,5,none⟩=some (.slice (some ⟨gd,0,none⟩) n0 n0):=(blk_cell HF.out.x 5).trans rfl
 have d0:w6.cell? ⟨gd,t,none⟩=some (.int .i64 y):=by rw[HY.out];exact HDI.out.cell (by rw[hDlen];exact ht)
 by_cases hy0:y<0
 ·have e1:decide (y<0)=true:=decide_eq_true hy0
  go_wp2_with fail
  go_ret
  exact⟨rfl,_,nx0,hn,HF.out,HK.out⟩
 ·have e1:decide (y<0)=false:=decide_eq_false hy0
  have hclr: ∀ ty,(Builtin.clear_ #[25] ty #[.slice (some ⟨gn,0,none⟩) n0 n0]).run Try.prog w6= .ok (.tuple #[]) (w6.setCells gn 0 (List.replicate n0 (.int .i64 0))):=fun ty=>Lib.run_clear_slice w6 25 3 ty (.int .i64 0) Try.underlying25 zero3 rfl rfl gn 0 n0 n0 (by omega) (fun j hj=>by rw[Nat.zero_add,HF.out.nx.cell (by rw[nI_len,hn];exact hj)];rfl) (fun j hj=>HF.out.nx.free _)
  obtain⟨hz,hzk⟩:=isI_clear (g:=gn) n0 (w:=w6) (X:=nI nx0) 0 (by rw[nI_len,hn];omega) HF.out.nx
  rw[List.take_zero,List.nil_append,show List.replicate n0 (0:Int)=nI (List.replicate n0 0) by unfold nI;rw[List.map_replicate];rfl] at hz
  have HF2:Aside0 (Fo n0 a0_1 A2 c2 l gF cF A4 c4 gx gn w.heap.size (.slice (some ⟨gd,0,none⟩) n0 n0) F (List.replicate n0 0) (w6.setCells gn 0 (List.replicate n0 (.int .i64 0)))):=⟨HF.out.putN hzk hz⟩
  have HD2:Aside0 (IsI (w6.setCells gn 0 (List.replicate n0 (.int .i64 0))) gd D):=⟨HDI.out.kept hzk (by show ¬ gd=gn;have:=HGD.out;omega)⟩
  have HK2:Aside0 (Ks (fun b=>b=gx∨b=gF∨b=gn) w (w6.setCells gn 0 (List.replicate n0 (.int .i64 0)))):=⟨HK.out.trans hzk (fun b hb _=> .inr (.inr hb))⟩
  clear hz hzk
  go_wp2_with fail
  clear HF HDI HK hclr x0 x1 x2 x3 x4 x5 x6 d0 HSZ
  have HF:=HF2
  have HDI:=HD2
  have HK:=HK2
  clear HF2 HD2 HK2
  generalize w6.setCells gn 0 (List.replicate n0 (.int .i64 0))=w7 at *
  obtain⟨R,hR⟩: ∃ R,R=phaseF l D s t 300000000 F (List.replicate n0 0):=⟨_,rfl⟩
  have HRR:=Aside0.mk hR
  clear hR
  go_loopw [] (fun w'=> ∃ k,Ps n0 a0_1 A2 c2 l gF cF A4 c4 gx gn w.heap.size gd D s t R w w' k) (fun w'=>least (fun k=>Ps n0 a0_1 A2 c2 l gF cF A4 c4 gx gn w.heap.size gd D s t R w w' k))
  case atStart=>exact⟨300000000,F,List.replicate n0 0,HFL.out,nx_zero l n0,by have:=HB0.out;omega,HRR.out.symm,HF.out,HDI.out,HK.out⟩
  case round=>
   clear HF HDI HK
   have hmin:=least_spec hrel
   obtain⟨kk,hkk⟩: ∃ k_,k_=least (fun k=>Ps n0 a0_1 A2 c2 l gF cF A4 c4 gx gn w.heap.size gd D s t R w wr k):=⟨_,rfl⟩
   rw[← hkk] at hmin
   have HLE:=Aside0.mk hkk
   clear hrel hkk
   obtain⟨G,nx,hgf,hnx,hgk,hgp,hF,hdi,hK⟩:=hmin
   have hgt:=flow_top hgf hs hst
   obtain⟨k,rfl⟩: ∃ k,kk=k+1:=⟨kk - 1,by omega⟩
   have HGF:=Aside0.mk hgf
   have HNX:=Aside0.mk hnx
   have HGK:=Aside0.mk hgk
   have HGP:=Aside0.mk hgp
   have HF:=Aside0.mk hF
   have HDI:=Aside0.mk hdi
   have HK:=Aside0.mk hK
   have hwsz:w.heap.size≤wr.heap.size:=hK.size
   have HFI:Aside0 (Fi n0 a0_1 A2 c2 l gF cF A4 c4 gx gd gn wr.heap.size G D nx wr):=⟨hF.fi hdi HGD.out hdi.lt (Nat.le_refl _)⟩
   obtain⟨RD,hRD⟩: ∃ R_,R_=downG (netG l G D) s t 2000000 s [] nx:=⟨_,rfl⟩
   have hfd:=downG_found (t:=t) (HFIN.out G) 2000000 (dinv_start (F:=G) (D:=D) hs hnx) (downM_lt hgf.right.arcs hgf.right.fifty nx)
   rw[← hRD] at hfd
   have HFD:=Aside0.mk hfd
   have HRD:=Aside0.mk hRD
   clear hgf hnx hgk hgp hF hdi hK hgt hfd hRD
   go_upto_region 6 with (first|(go_at_call 174;refine(down_calls n0 a0_1 A2 c2 l gF cF A4 c4 gx gd gn G D s t nx _ HGF.out.right hDlen HDB.out (HFIN.out G) HNX.out hs ht HFI.out).mono ?_;rintro e_ w8 ⟨vw,rfl,hvr,hfi,hks⟩;rw[← HRD.out] at hvr hfi ⊢;have m0_:=Aside0.mk (HF.out.ofFi hks hfi);have m1_:=Aside0.mk (HDI.out.kept hks (by show ¬ gd=gn;have:=HGD.out;have:=HF.out.low;omega));have m2_:=Aside0.mk (HK.out.trans hks (fun b hb _=> .inr (.inr hb)));have HVR:=Aside0.mk hvr;clear HF HDI HK HFI hvr hfi hks;have HF:=m0_;have HDI:=m1_;have HK:=m2_;clear m0_ m1_ m2_)|fail)
   obtain⟨o,nx'⟩:=RD
   cases o with
   |none=>
    have e2:(!(none:Option (List S38)).isSome)=true:=rfl
    have hq:G=R:=by rw[← HGP.out,phase_end HRD.out.symm]
    go_wp2_with fail
    go_ret
    exact⟨rfl,_,nx',HFD.out.len,by rw[← HRR.out, ← hq];exact HF.out,HK.out⟩
   |some L=>
    have e2:(!(some L:Option (List S38)).isSome)=false:=rfl
    obtain⟨hL1,hL2⟩:=HFD.out.way L rfl
    have hLl:=leads_len (HFIN.out G).hfr hL1 hL2
    obtain⟨p1,p2,p3,p4,p5,p6,p7⟩:=HPUSH.out HGF.out hL1 hL2
    have hLn:L.length≤50:=by
     have h_1:=(HDB.out t ht).2
     have h_2:=(HFIN.out G).hs
     have h_3:(netG l G D).D t=D.getD t 0:=rfl
     omega
    have hLp:0<L.length:=List.length_pos_iff.2 p3
    have HP1:=Aside0.mk p1
    have HP4:=Aside0.mk p4
    have HP5:=Aside0.mk p5
    have HP6:=Aside0.mk p6
    have hRv:=HVR.out L rfl
    obtain⟨Aw,cw,ew⟩:=Kd.R_slice hRv
    subst ew
    have hCw:=(Kd.R_reads' hRv).2.2
    have hcw:=(Kd.R_reads' hRv).2.1
    obtain⟨ad,ead,_⟩:=hCw.2.2 hLp
    subst ead
    obtain⟨g,eg⟩:=Kd.R_head hRv
    subst eg
    have hgb:wr.heap.size≤g:=Kd.R_base hRv g rfl
    have HWC:Aside0 (∀ (j:Nat) (e:S38),L[j]? =some e→w8.cell? ⟨g,j * 2,none⟩=some (.int .i64 e.f0)∧w8.cell? ⟨g,j * 2+1,none⟩=some (.bool e.f1)):=⟨by
     intro j e hj
     obtain⟨ad,ead,c0,c1⟩:=at_T38 hCw (j:Int) (by omega) (by have:=(List.getElem?_eq_some_iff.1 hj).1;omega)
     injection ead with ead
     subst ead
     have hee:rd_T38 L (j:Int)=e:=by
      unfold rd_T38
      rw[Int.toNat_natCast,List.getD_eq_getElem?_getD,hj]
      rfl
     rw[hee,Int.toNat_natCast,add_at,Nat.zero_add] at c0 c1
     exact⟨c0,c1⟩⟩
    have hgl:g<w8.heap.size:=Kd.R_lt hRv g rfl
    have HGG:Aside0 (w.heap.size≤g):=⟨Nat.le_trans hwsz hgb⟩
    clear hL1 hL2 hLl p1 p4 p5 p6 hRv hCw hgb HVR
    have x0:w8.cell? ⟨gx,0,none⟩=some (.int .i64 (n0:Int)):=(blk_cell HF.out.x 0).trans rfl;have x1:w8.cell? ⟨gx,1,none⟩=some (.bool a0_1):=(blk_cell HF.out.x 1).trans rfl;have x2:w8.cell? ⟨gx,2,none⟩=some (.slice A2 l.length c2):=(blk_cell HF.out.x 2).trans rfl;have x3:w8.cell? ⟨gx,3,none⟩=some (.slice (some ⟨gF,0,none⟩) G.length cF):=(blk_cell HF.out.x 3).trans rfl;have x4:w8.cell? ⟨gx,4,none⟩=some (.slice A4 n0 c4):=(blk_cell HF.out.x 4).trans rfl;have x6:w8.cell? ⟨gx,6,none⟩=some (.slice (some ⟨gn,0,none⟩) n0 n0):=(blk_cell HF.out.x 6).trans rfl
    obtain⟨m,hm⟩: ∃ m_,m_=leastR l G L:=⟨_,rfl⟩
    rw[← hm] at p2 p7
    have HMM:=Aside0.mk hm
    clear hm
    go_upto_region 9 with (first|(go_at_call 153;refine(least_calls n0 a0_1 A2 c2 l (some ⟨gF,0,none⟩) cF G g cw L _ HGF.out.right HP6.out hLp (by omega) hcw HWC.out HF.out.ca HF.out.cf HF.out.ca_ (isI_C HF.out.fl (by have:=HGF.out.right.len;have:=HGF.out.right.arcs;omega))).mono ?_;rintro e_ w9 ⟨rfl,hb⟩;rw[← HMM.out];have m0_:=Aside0.mk (HF.out.below hb);have m1_:=Aside0.mk (HDI.out.below hb);have m2_:=Aside0.mk (HK.out.below hb);have m3_:Aside0 (∀ (j:Nat) (e:S38),L[j]? =some e→w9.cell? ⟨g,j * 2,none⟩=some (.int .i64 e.f0)∧w9.cell? ⟨g,j * 2+1,none⟩=some (.bool e.f1)):=⟨fun j e hj=>⟨pw_cell_below hb (HWC.out j e hj).1,pw_cell_below hb (HWC.out j e hj).2⟩⟩;have hgl9:g<w9.heap.size:=Nat.lt_of_lt_of_le hgl hb.size;clear HF HDI HK HWC hb x0 x1 x2 x3 x4 x6;have HF:=m0_;have HDI:=m1_;have HK:=m2_;have HWC:=m3_;clear m0_ m1_ m2_ m3_)|fail)
    go_wp2_with fail
    go_loopw [51] (fun v51 w'=> ∃ j:Nat,j≤L.length∧v51= .int .i64 (j:Int)∧Aside0 (Fo n0 a0_1 A2 c2 l gF cF A4 c4 gx gn w.heap.size (.slice (some ⟨gd,0,none⟩) n0 n0) (pushW G m (L.take j)) nx' w')∧Aside0 (IsI w' gd D)∧Aside0 (Ks (fun b=>b=gx∨b=gF∨b=gn) w w')∧Aside0 (∀ (j:Nat) (e:S38),L[j]? =some e→w'.cell? ⟨g,j * 2,none⟩=some (.int .i64 e.f0)∧w'.cell? ⟨g,j * 2+1,none⟩=some (.bool e.f1))∧Aside0 (g<w'.heap.size)) (fun v51 _=>L.length - (intOf v51).toNat)
    case atStart=>exact⟨0,by omega,rfl,by rw[List.take_zero];exact HF,HDI,HK,HWC,⟨hgl9⟩⟩
    case round=>
     clear HF HDI HK HWC hgl hgl9
     obtain⟨j,hj,rfl,HF,HDI,HK,HWC,HGL⟩:=hrel
     by_cases hlt:j<L.length
     ·have e3:decide ((j:Int)<(L.length:Int))=true:=decide_eq_true (by omega)
      obtain⟨e,he⟩: ∃ e,L[j]? =some e:=⟨_,List.getElem?_eq_getElem hlt⟩
      obtain⟨c0,c1⟩:=HWC.out j e he
      have hmem:=List.mem_of_getElem? he
      have hso:=HP6.out e hmem
      have hrj:=Right.take (k:=m) (by omega) HGF.out.right (L:=L) (fun x hx=>⟨HP6.out x hx,by rw[HMM.out];exact leastR_le hx⟩) HP5.out j
      have hgo:goS (pushW G m (L.take j)) e m=pushW G m (L.take (j+1)):=by rw[take_snoc he,pushW_snoc]
      obtain⟨i,hi,hei⟩:=hso
      have hnj:=hrj.nums i hi
      have hlj:=hrj.len
      obtain⟨Fj,hFj⟩: ∃ F_,F_=pushW G m (L.take j):=⟨_,rfl⟩
      rw[← hFj] at hgo hnj hlj HF
      have HGO:=Aside0.mk hgo
      have HNJ:=Aside0.mk hnj
      have HLJ:=Aside0.mk hlj
      have HEI:=Aside0.mk hei
      have hgFj:(pushW G m (L.take (j+1))).length=Fj.length:=by rw[← hgo,goS_len]
      clear hrj hgo hnj hlj hei hFj he hmem
      have pj:(0:Int)≤(j:Int):=by omega
      have qj:(j:Int)<(L.length:Int):=by omega
      go_upto_region 12 with fail
      have HN:Aside0 ((wr.alloc (.cells #[.int .i64 e.f0, .bool e.f1] 38)).heap[wr.heap.size]? =some (.cells #[.int .i64 e.f0, .bool e.f1] 38 (0,0))):=⟨heap_alloc_new _ _⟩
      have hbA:Below wr.heap.size wr (wr.alloc (.cells #[.int .i64 e.f0, .bool e.f1] 38)):=below_alloc (Below.refl _ _) _
      have hszr:w.heap.size≤wr.heap.size:=HK.out.size
      have m0_:=Aside0.mk (HF.out.below hbA)
      have m1_:=Aside0.mk (HDI.out.below hbA)
      have m2_:=Aside0.mk (HK.out.below hbA)
      have m3_:Aside0 (∀ (j:Nat) (e:S38),L[j]? =some e→(wr.alloc (.cells #[.int .i64 e.f0, .bool e.f1] 38)).cell? ⟨g,j * 2,none⟩=some (.int .i64 e.f0)∧(wr.alloc (.cells #[.int .i64 e.f0, .bool e.f1] 38)).cell? ⟨g,j * 2+1,none⟩=some (.bool e.f1))→True:=fun _=>trivial
      have m4_:Aside0 (∀ (q:Nat) (e_:S38),L[q]? =some e_→(wr.alloc (.cells #[.int .i64 e.f0, .bool e.f1] 38)).cell? ⟨g,q * 2,none⟩=some (.int .i64 e_.f0)∧(wr.alloc (.cells #[.int .i64 e.f0, .bool e.f1] 38)).cell? ⟨g,q * 2+1,none⟩=some (.bool e_.f1)):=⟨fun q e_ hq=>⟨pw_cell_below hbA (HWC.out q e_ hq).1,pw_cell_below hbA (HWC.out q e_ hq).2⟩⟩
      clear HF HDI HK HWC c0 c1 m3_ hbA
      have HF:=m0_
      have HDI:=m1_
      have HK:=m2_
      have HWC:=m4_
      clear m0_ m1_ m2_ m4_
      have HGL:=HGL.out
      generalize wr.alloc (.cells #[.int .i64 e.f0, .bool e.f1] 38)=w11 at *
      generalize wr.heap.size=g11 at *
      have x0:w11.cell? ⟨gx,0,none⟩=some (.int .i64 (n0:Int)):=(blk_cell HF.out.x 0).trans rfl;have x1:w11.cell? ⟨gx,1,none⟩=some (.bool a0_1):=(blk_cell HF.out.x 1).trans rfl;have x2:w11.cell? ⟨gx,2,none⟩=some (.slice A2 l.length c2):=(blk_cell HF.out.x 2).trans rfl;have x3:w11.cell? ⟨gx,3,none⟩=some (.slice (some ⟨gF,0,none⟩) Fj.length cF):=(blk_cell HF.out.x 3).trans rfl;have x4:w11.cell? ⟨gx,4,none⟩=some (.slice A4 n0 c4):=(blk_cell HF.out.x 4).trans rfl;have x6:w11.cell? ⟨gx,6,none⟩=some (.slice (some ⟨gn,0,none⟩) n0 n0):=(blk_cell HF.out.x 6).trans rfl
      have b0:w11.cell? ⟨g11,0,none⟩=some (.int .i64 e.f0):=(blk_cell HN.out 0).trans rfl
      have b1:w11.cell? ⟨g11,1,none⟩=some (.bool e.f1):=(blk_cell HN.out 1).trans rfl
      have hgx: ¬ gx=gF:=HF.out.apart.2.1
      have hg11: ¬ g11=gF:=by have:=HF.out.low;omega
      have hgw:g<w11.heap.size:=by have:=blk_lt HN.out;omega
      have hlF:i<Fj.length:=by have:=HLJ.out;omega
      clear x4 x6
      go_region_held3 (fun w'=>w'.cell? ⟨gx,0,none⟩=some (.int .i64 (n0:Int))∧w'.cell? ⟨gx,1,none⟩=some (.bool a0_1)∧w'.cell? ⟨gx,2,none⟩=some (.slice A2 l.length c2)∧w'.cell? ⟨gx,3,none⟩=some (.slice (some ⟨gF,0,none⟩) Fj.length cF)∧w'.cell? ⟨g11,0,none⟩=some (.int .i64 e.f0)∧w'.cell? ⟨g11,1,none⟩=some (.bool e.f1))
       (first|((try dsimp only);(refine⟨?_,?_,?_,?_,?_,?_⟩)<;>first|(exact pw_cell_below (below_drew (Below.refl _ _)) (by assumption))|(exact ks_cellF hks (pw_cell_below (below_drew (Below.refl _ _)) (by assumption)) (by assumption))|(exact ks_cellF hks (by assumption) (by assumption)))|go_keep)
       (first|(go_at_call 154;refine(go_calls (n0:Int) a0_1 A2 c2 l gF cF Fj e m _ ?hF (i:=i) hlF HEI.out ⟨by omega,by omega⟩ (fun _=>by have:=HNJ.out;omega) (fun _=>by have:=HNJ.out;omega)).mono ?_;(case hF=>first|exact HF.out.fl|exact HF.out.fl.below (below_drew (Below.refl _ _)));rintro e_ w12 ⟨rfl,hil,hks⟩))
      rw[HGO.out] at hil
      have hbd:Below w11.heap.size w11 w11.drew:=below_drew (Below.refl _ _)
      have m0_:=Aside0.mk ((HF.out.below hbd).putF hks hil hgFj)
      have m1_:=Aside0.mk ((HDI.out.below hbd).kept hks (by show ¬ gd=gF;have:=HGD.out;have:=HF.out.low;omega))
      have m2_:=Aside0.mk ((HK.out.below hbd).trans hks (fun b hb _=> .inr (.inl hb)))
      have m4_:Aside0 (∀ (q:Nat) (e_:S38),L[q]? =some e_→w12.cell? ⟨g,q * 2,none⟩=some (.int .i64 e_.f0)∧w12.cell? ⟨g,q * 2+1,none⟩=some (.bool e_.f1)):=⟨fun q e_ hq=>⟨ks_cellF hks (pw_cell_below hbd (HWC.out q e_ hq).1) (by have:=HGG.out;have:=HF.out.low;omega),ks_cellF hks (pw_cell_below hbd (HWC.out q e_ hq).2) (by have:=HGG.out;have:=HF.out.low;omega)⟩⟩
      have hgw2:g<w12.heap.size:=Nat.lt_of_lt_of_le hgw (Nat.le_trans hbd.size hks.size)
      clear HF HDI HK HWC hbd hks hil x0 x1 x2 x3 b0 b1 HN
      go_wp2_with fail
      go_roundw
      case rel=>exact⟨j+1,by omega,by go_num,m0_,m1_,m2_,m4_,⟨hgw2⟩⟩
      case measure=>simp[intOf];omega
     ·have e3:decide ((j:Int)<(L.length:Int))=false:=decide_eq_false (by omega)
      have htk:L.take j=L:=List.take_of_length_le (by omega)
      rw[htk] at HF
      have HP1':Aside0 (IsFlow l (pushW G m L) n0 s t∧bal l (pushW G m L) s=bal l G s+m):=⟨by rw[HMM.out];exact⟨HP1.out,HP4.out⟩⟩
      have hps:phaseF l D s t (k+1) G nx=phaseF l D s t k (pushW G m L) nx':=by rw[HMM.out];exact phase_step HRD.out.symm
      have HPS:=Aside0.mk hps
      clear hps htk
      have hPs:Ps n0 a0_1 A2 c2 l gF cF A4 c4 gx gn w.heap.size gd D s t R w wr k:=⟨pushW G m L,nx',HP1'.out.1,⟨HFD.out.len,HFD.out.le⟩,by have:=HP1'.out.2;have:=HGK.out;omega,by rw[← HPS.out];exact HGP.out,HF.out,HDI.out,HK.out⟩
      go_wp2_with fail
      go_roundw
      case rel=>exact⟨k,hPs⟩
      case measure=>exact least_lt hPs (by rw[← HLE.out];exact Nat.lt_succ_self k)
end Go.Proofs.Ytkcpanpdipmmmaa.H
namespace Go.Proofs.Ytkcpanpdipmmmaa.H
open Go.RowKit Go.Proofs.YtkcpanpdipmmmaaW.PrintWords Go.Proofs.YtkcpanpdipmmmaaW.PrintLast Go.Proofs.YtkcpanpdipmmmaaW.PrintMore Go.Proofs.Ytkcpanpdipmmmaa.P
set_option maxHeartbeats 1000000 in
set_option maxRecDepth 100000 in
theorem insertion_nil (A:Option Addr) (cap:Nat) (f:Value) (w:World):
  Calls Try.prog 169 #[.slice A 0 cap, .int .i64 0, .int .i64 0,f] w fun e w'=>e= .returned (.tuple #[])∧w'=w:=by
 go_enter Try.func169,Try.ntmps169
 go_wp2
 go_loopw [8] (fun i wr=>i= .int .i64 1∧Aside0 (wr=w)) (fun i _=>0)
 case atStart=>exact⟨by go_num,⟨rfl⟩⟩
 case round=>
  obtain⟨rfl,HW⟩:=hrel
  go_wp2
  go_end0
  exact⟨rfl,HW.out⟩
set_option maxHeartbeats 1000000 in
set_option maxRecDepth 100000 in
theorem stable_nil (A:Option Addr) (cap:Nat) (f:Value) (w:World):
  Calls Try.prog 162 #[.slice A 0 cap, .int .i64 0,f] w fun e w'=>e= .returned (.tuple #[])∧w'=w:=by
 go_enter Try.func162,Try.ntmps162
 go_wp2_with fail
 go_loopw [7,8] (fun va vb wr=>va= .int .i64 0∧vb= .int .i64 20∧Aside0 (wr=w)) (fun va _ _=>0)
 case atStart=>exact⟨by go_num,by go_num,⟨rfl⟩⟩
 case round=>
  obtain⟨rfl,rfl,HW⟩:=hrel
  go_wp2_with fail
  refine(insertion_nil A cap f _).mono ?_
  rintro e1 w1 ⟨rfl,rfl⟩
  go_wp2_with fail
  go_loopw [6] (fun vs wr=>vs= .int .i64 20∧Aside0 (wr=w)) (fun vs _=>0)
  case atStart=>exact⟨by go_num,HW⟩
  case round=>
   clear HW
   obtain⟨rfl,HW⟩:=hrel
   go_wp2_with fail
   go_end0
   exact⟨rfl,HW.out⟩
theorem sortStable_nil (A:Option Addr) (cap:Nat) (f:Value) (w:World):
  Calls Try.prog 143 #[.slice A 0 cap,f] w fun e w'=>e= .returned (.tuple #[])∧w'=w:=by
 go_enter Try.func143,Try.ntmps143
 go_wp2_with fail
 refine(stable_nil A cap f w).mono ?_
 rintro e1 w1 ⟨rfl,rfl⟩
 go_wp2_with fail
 go_end0
 exact⟨rfl,rfl⟩
end Go.Proofs.Ytkcpanpdipmmmaa.H
namespace Go.Proofs.Ytkcpanpdipmmmaa.H
open Go.RowKit Go.Proofs.YtkcpanpdipmmmaaW.PrintWords Go.Proofs.YtkcpanpdipmmmaaW.PrintLast Go.Proofs.YtkcpanpdipmmmaaW.PrintMore Go.Proofs.Ytkcpanpdipmmmaa.P
theorem stL_nil {l:List S74} {n:Nat} {v:Int} (hv0:0≤v) (hv:v<n) (hE:ends l n) (h:stepsU l n v=[]):stL l v l.length=[]:=by
 refine List.eq_nil_iff_forall_not_mem.2 fun s hs=> ?_
 have:=(mem_stepsU l n v hv0 hv hE s).2 ((mem_stL l v l.length s).1 hs)
 rw[h] at this
 cases this
theorem row_step (P:List S38) (L:List Int) (b:Bool) (j:Nat) (hj:j<L.length):P ++ (L.take (j+1)).map (fun i=>(⟨i,b⟩:S38))=(P ++ (L.take j).map (fun i=>(⟨i,b⟩:S38))) ++ [⟨rd L (j:Int),b⟩]:=by
 have e:L.take (j+1)=L.take j ++ [rd L (j:Int)]:=by
  rw[List.take_add_one,List.getElem?_eq_getElem hj]
  show _ ++ [L[j]]=_ ++ [L.getD (j:Int).toNat 0]
  rw[Int.toNat_natCast,List.getD_eq_getElem?_getD,List.getElem?_eq_getElem hj]
  rfl
 rw[e,List.map_append,List.append_assoc]
 rfl
theorem sort_row {w:World} {base go n co k N:Nat} {l:List S74} {X:List (List S38)} {oki:Nat→Prop} {A:Option Addr} {cr:Nat} {RW:List S38}
  (hH:Kd.H (Kd.slice 38 k38) 34 w base (fun _=>True) (.slice (some ⟨go,0,none⟩) n co) X (k:Int) oki [.slice A RW.length cr])
  (hR:Kd.R k38 38 w base oki (.slice A RW.length cr) RW) (hRW:RW=stepsU l N (k:Int)) (hk:k<N) (hE:ends l N) (hl:l.length≤1000000) (hlen:RW.length≤1000000):
  Calls Try.prog 143 #[.slice A RW.length cr, .func (.func 144) #[] #[]] w fun e w'=>e= .returned (.tuple #[])∧
   ∃ v:Value,w.grownBy w' v.ownBlock∧(∀ g,v.ownBlock=some g→base≤g∧ ∃ cells,w.heap[g]? =some (.cells cells 38 (0,0)))∧Kd.S (Kd.slice 38 k38) 34 w' base (fun _=>True) (.slice (some ⟨go,0,none⟩) n co) (X.set k (stL l k l.length)):=by
 have hk0:0≤(k:Int):=by omega
 have hkn:(k:Int)<N:=by omega
 by_cases hp:0<RW.length
 ·obtain⟨g,cap,e,hb,_,cells,hcl⟩:=Kd.R_form hR hp
  injection e with e1 _ e3
  subst e1
  subst e3
  have hA:=arr_of_R hR hp
  refine(sortStable_calls g RW.length cr (fun i=>RW.getD i z38) w hA hlen ?_ ?_).mono ?_
  ·rw[hRW];exact stab_of_list (stab_stepsU l N (k:Int) hk0 hkn hE)
  ·rw[hRW];exact small_steps hk0 hkn hE hl
  ·rintro e w' ⟨rfl,⟨K,hK,hs⟩,hf⟩
   refine⟨rfl, .slice (some ⟨g,0,none⟩) RW.length cr,hf.1,fun g' hg'=> ?_,?_⟩
   ·have:g=g':=by simpa [Value.ownBlock] using hg'
    subst this
    exact⟨hb,cells,hcl⟩
   ·have hoki:oki g:=hR.1 g rfl
    have hR':=R_of_arr hR rfl hp hK hf hoki
    have hst:(List.range RW.length).map K=stL l k l.length:=by rw[hRW] at hs ⊢;exact sorted_is hk0 hkn hE hs
    rw[hst] at hR'
    have hS:=Kd.H_back (Kd.H_grown hH hf.1 (fun q hq=>by injection hq with hq;subst hq;exact hoki)) (x':=stL l k l.length) ⟨_,rfl,hR'⟩ (fun _ hk=>hk)
    rw[Int.toNat_natCast] at hS
    exact hS
 ·have h0:RW=[]:=List.eq_nil_of_length_eq_zero (by omega)
  have hst:stL l k l.length=[]:=stL_nil hk0 hkn hE (by rw[← hRW];exact h0)
  subst h0
  refine(sortStable_nil A cr _ w).mono ?_
  rintro e w' ⟨rfl,rfl⟩
  refine⟨rfl, .slice none 0 0,World.grownBy.refl _ _,fun g' hg'=>by simp[Value.ownBlock] at hg',?_⟩
  rw[hst]
  have hS:=Kd.H_back hH (x':=([]:List S38)) ⟨_,rfl,hR⟩ (fun _ hk=>hk)
  rw[Int.toNat_natCast] at hS
  exact hS
end Go.Proofs.Ytkcpanpdipmmmaa.H
