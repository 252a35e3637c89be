/- What the law's row needs of these texts, taken out of them by wip/tool/mini.py: QNet P33 P84 QFlowA QFlowB QPushLaw QCutLaw QFlowLaw QMaxLaw QLevelDef QSeekLaw QQueLaw QRawMem P72 QQueGrow QQuePut P69 P70 QRepeatWalk QLeast QSeekWalk QReverseWalk QFarsWalk QSortNil QSortRow QAt P34 QEndsLaw QRightOf QWayFact. -/
import Derived.Test.YtoedkglggapggaaMindgak
import Derived.Test.YtoedkglggapggaaMofhjgm
import Derived.RegionTactic
import Derived.ChangeAlike
import Derived.BigRegion
import Derived.LoopTactic
import Derived.WalkKit
import Derived.WalkMore
import Derived.Deep.RegionHeld3
import Derived.Deep.RegionLaw
import Derived.Deep.AppendLies
import Derived.IntWalk
import Derived.Laws.IdiomCopy
import Derived.Laws.CopyOwn
import Derived.Test.YtoedkglggapggaaProg
import Derived.Deep.DeepCutAuto
set_option linter.unusedVariables false
set_option linter.unusedSimpArgs false
open Go.RowKit Go.Proofs.YtoedkglggapggaaW.PrintWords Go.Proofs.YtoedkglggapggaaW.PrintLast Go.Proofs.YtoedkglggapggaaW.PrintMore
namespace Go.Proofs.Ytoedkglggapggaa
namespace Q
open P
def arcErr (n:Int) (a:S50):Int:=
 if a.f0<0∨a.f1<0∨a.f2<0∨a.f3<0∨n≤a.f0∨n≤a.f1 then 51 else if 1048576<a.f2∨1048576<a.f3 then 2 else 0
def arcsErr (n:Int):List S50→Int
 |[]=>0
 |a::l=>if arcErr n a=0 then arcsErr n l else arcErr n a
def netErr (n:Int) (l:List S50):Int:=if n<1 then 51 else if n>50 then 2 else if (l.length:Int)>200 then 2 else arcsErr n l
structure ArcOk (n:Int) (a:S50):Prop where
 f0:0≤a.f0
 f1:0≤a.f1
 f2:0≤a.f2
 f3:0≤a.f3
 h0:a.f0<n
 h1:a.f1<n
 h2:a.f2≤1048576
 h3:a.f3≤1048576
structure NetOk (n:Int) (l:List S50):Prop where
 lo:1≤n
 hi:n≤50
 len:l.length≤200
 arcs: ∀ a∈l,ArcOk n a
theorem arcErr_ok {n:Int} {a:S50} (h:arcErr n a=0):ArcOk n a:=by
 unfold arcErr at h;split at h
 ·omega
 ·split at h
  ·omega
  ·constructor<;>omega
theorem arcsErr_ok {n:Int} : ∀ {l:List S50},arcsErr n l=0→ ∀ a∈l,ArcOk n a
 |[],_,a,ha=>by cases ha
 |b::l,h,a,ha=>by
  unfold arcsErr at h;split at h
  ·rename_i hb
   rcases List.mem_cons.1 ha with rfl|ha
   ·exact arcErr_ok hb
   ·exact arcsErr_ok h a ha
  ·exact absurd h (by assumption)
theorem netErr_ok {n:Int} {l:List S50} (h:netErr n l=0):NetOk n l:=by
 unfold netErr at h;split at h
 ·omega
 ·split at h
  ·omega
  ·split at h
   ·omega
   ·exact⟨by omega,by omega,by omega,arcsErr_ok h⟩
theorem NetOk.at_ {n:Int} {l:List S50} (h:NetOk n l) {i:Int} (h0:0≤i) (h1:i<l.length):ArcOk n (rd_T50 l i):=h.arcs _ (getD_mem (by omega))
theorem nodes_eq (n:Int):netfmt_nodes.f n=some (if n<1 then 51 else if n>50 then 2 else 0):=by
 unfold netfmt_nodes.f;split
 ·rfl
 ·split<;>rfl
theorem arc_ev (n:Int) (a:S50):Ev (fun k=>netfmt_arc.f k n a.f0 a.f1 a.f2 a.f3) (arcErr n a):=by
 unfold netfmt_arc.f arcErr;refine Ev.ite (fun h=> ?_) (fun h=> ?_)
 ·refine Ev.succ ?_;simp only[netfmt_arc.j0]
  repeat(first|exact Ev.now _|with_reducible refine Ev.pos (by first|assumption|omega) ?_|with_reducible refine Ev.neg (by first|assumption|omega) ?_|with_reducible refine Ev.let_ ?_)
  exact Ev.done (by unfold mn at h;rw[Yx (by omega)])
 ·refine Ev.succ ?_;simp only[netfmt_arc.j0]
  unfold mn at h;unfold mx;refine Ev.ite (fun g=> ?_) (fun g=> ?_)
  ·have g:=Yu g
   exact Ev.done (by rw[Yx (by omega)])
  ·have g:=of_decide_eq_false (Bool.eq_false_iff.2 g)
   refine Ev.ite (fun g1=> ?_) (fun g1=> ?_)
   ·exact Ev.done (by rw[Yy (by omega),Yx (by omega)])
   ·refine Ev.ite (fun g2=> ?_) (fun g2=> ?_)
    ·exact Ev.done (by rw[Yy (by omega),Yx (by omega)])
    ·exact Ev.done (by rw[Yy (by omega),Yy (by omega)])
theorem check_l0 (l:List S50) (n:Int) (b:Bool) (hl:l.length≤9223372036854775807) (d:Nat): ∀ i:Nat,i+d=l.length→
  Ev (fun k=>netfmt_Check.l0 k l (l.length:Int) (i:Int) n b l) (arcsErr n (l.drop i)):=by
 induction d with
 |zero=>
  intro i hi;refine Ev.succ ?_;simp only[netfmt_Check.l0];repeat(first|exact Ev.now _|with_reducible refine Ev.pos (by first|assumption|omega) ?_|with_reducible refine Ev.neg (by first|assumption|omega) ?_|with_reducible refine Ev.let_ ?_)
  rw[List.drop_of_length_le (by omega)];exact Ev.now _
 |succ d ih=>
  intro i hi;refine Ev.succ ?_;simp only[netfmt_Check.l0];repeat(first|exact Ev.now _|with_reducible refine Ev.pos (by first|assumption|omega) ?_|with_reducible refine Ev.neg (by first|assumption|omega) ?_|with_reducible refine Ev.let_ ?_)
  refine Ev.bind (arc_ev n (rd_T50 l i)) ?_;rw[drop_getD l i z50 (by omega)];have hr:rd_T50 l (i:Int)=l.getD i z50:=by unfold rd_T50;rw[Int.toNat_natCast]
  rw[hr];unfold arcsErr;refine Ev.ite (fun h=> ?_) (fun h=> ?_)
  ·rw[Yx h,wrap_succ (n:=l.length) (by omega) hl]
   exact ih (i+1) (by omega)
  ·rw[Yy h]
   exact Ev.now _
theorem check_ev (n:Int) (b:Bool) (l:List S50):Ev (fun k=>netfmt_Check.f k n b l) (netErr n l):=by
 unfold netfmt_Check.f netErr;refine Ev.call (nodes_eq n) ?_;by_cases h:n<1
 ·rw[Yx h,Yx h]
  repeat(first|exact Ev.now _|with_reducible refine Ev.pos (by first|assumption|omega) ?_|with_reducible refine Ev.neg (by first|assumption|omega) ?_|with_reducible refine Ev.let_ ?_)
 ·rw[Yy h,Yy h]
  by_cases h2:n>50
  ·rw[Yx h2,Yx h2]
   repeat(first|exact Ev.now _|with_reducible refine Ev.pos (by first|assumption|omega) ?_|with_reducible refine Ev.neg (by first|assumption|omega) ?_|with_reducible refine Ev.let_ ?_)
  ·rw[Yy h2,Yy h2]
   repeat(first|exact Ev.now _|with_reducible refine Ev.pos (by first|assumption|omega) ?_|with_reducible refine Ev.neg (by first|assumption|omega) ?_|with_reducible refine Ev.let_ ?_)
   refine Ev.ite (fun g=> ?_) (fun g=> ?_)
   ·rw[Yx g]
    exact Ev.now _
   ·rw[Yy g]
    exact check_l0 l n b (by omega) l.length 0 (by omega)
theorem ref_nodes_eq (n:Int):ebbtideref05_nodes.f n=some (if n<1 then 51 else if n>50 then 2 else 0):=by
 unfold ebbtideref05_nodes.f;split
 ·rfl
 ·split<;>rfl
theorem ref_arc_j0 (x:Bool) (n:Int) (a:S50) (hx:x=true↔a.f0<0∨a.f1<0∨a.f2<0∨a.f3<0∨n≤a.f0∨n≤a.f1):Ev (fun k=>ebbtideref05_Arc.j0 k x a.f0 a.f1 a.f2 a.f3) (arcErr n a):=by
 unfold arcErr;refine Ev.succ ?_;simp only[ebbtideref05_Arc.j0];refine Ev.ite (fun g=> ?_) (fun g=> ?_)
 ·exact Ev.done (by rw[Yx (hx.1 g)])
 ·have g':=fun h=>g (hx.2 h)
  refine Ev.ite (fun g1=> ?_) (fun g1=> ?_)
  ·exact Ev.done (by rw[Yy g',Yx (by omega)])
  ·refine Ev.ite (fun g2=> ?_) (fun g2=> ?_)
   ·exact Ev.done (by rw[Yy g',Yx (by omega)])
   ·exact Ev.done (by rw[Yy g',Yy (by omega)])
theorem ref_arc_ev (n:Int) (a:S50):Ev (fun k=>ebbtideref05_Arc.f k n a.f0 a.f1 a.f2 a.f3) (arcErr n a):=by
 unfold ebbtideref05_Arc.f;refine Ev.ite (fun h=> ?_) (fun h=> ?_)
 ·exact ref_arc_j0 _ _ _ ⟨fun _=>by omega,fun _=>rfl⟩
 refine Ev.ite (fun h=> ?_) (fun h=> ?_)
 ·exact ref_arc_j0 _ _ _ ⟨fun _=>by omega,fun _=>rfl⟩
 refine Ev.ite (fun h=> ?_) (fun h=> ?_)
 ·exact ref_arc_j0 _ _ _ ⟨fun _=>by omega,fun _=>rfl⟩
 refine Ev.ite (fun h=> ?_) (fun h=> ?_)
 ·exact ref_arc_j0 _ _ _ ⟨fun _=>by omega,fun _=>rfl⟩
 refine Ev.ite (fun h=> ?_) (fun h=> ?_)
 ·exact ref_arc_j0 _ _ _ ⟨fun _=>by omega,fun _=>rfl⟩
 ·exact ref_arc_j0 _ _ _ ⟨fun g=>by have:=Yu g;omega,fun g=>Yv (by omega)⟩
theorem ref_check_l0 (l:List S50) (n:Int) (b:Bool) (hl:l.length≤9223372036854775807) (d:Nat): ∀ i:Nat,i+d=l.length→
  Ev (fun k=>ebbtideref05_Check.l0 k (i:Int) n b l) (arcsErr n (l.drop i)):=by
 induction d with
 |zero=>
  intro i hi;refine Ev.succ ?_;simp only[ebbtideref05_Check.l0];repeat(first|exact Ev.now _|with_reducible refine Ev.pos (by first|assumption|omega) ?_|with_reducible refine Ev.neg (by first|assumption|omega) ?_|with_reducible refine Ev.let_ ?_)
  rw[List.drop_of_length_le (by omega)];exact Ev.now _
 |succ d ih=>
  intro i hi;refine Ev.succ ?_;simp only[ebbtideref05_Check.l0];repeat(first|exact Ev.now _|with_reducible refine Ev.pos (by first|assumption|omega) ?_|with_reducible refine Ev.neg (by first|assumption|omega) ?_|with_reducible refine Ev.let_ ?_)
  refine Ev.bind (ref_arc_ev n (rd_T50 l i)) ?_;rw[drop_getD l i z50 (by omega)];have hr:rd_T50 l (i:Int)=l.getD i z50:=by unfold rd_T50;rw[Int.toNat_natCast]
  rw[hr];unfold arcsErr;refine Ev.ite (fun h=> ?_) (fun h=> ?_)
  ·rw[Yx h,wrap_succ (n:=l.length) (by omega) hl]
   exact ih (i+1) (by omega)
  ·rw[Yy h]
   exact Ev.now _
theorem ref_check_ev (n:Int) (b:Bool) (l:List S50):Ev (fun k=>ebbtideref05_Check.f k n b l) (netErr n l):=by
 unfold ebbtideref05_Check.f netErr;refine Ev.call (ref_nodes_eq n) ?_;by_cases h:n<1
 ·rw[Yx h,Yx h]
  repeat(first|exact Ev.now _|with_reducible refine Ev.pos (by first|assumption|omega) ?_|with_reducible refine Ev.neg (by first|assumption|omega) ?_|with_reducible refine Ev.let_ ?_)
 ·rw[Yy h,Yy h]
  by_cases h2:n>50
  ·rw[Yx h2,Yx h2]
   repeat(first|exact Ev.now _|with_reducible refine Ev.pos (by first|assumption|omega) ?_|with_reducible refine Ev.neg (by first|assumption|omega) ?_|with_reducible refine Ev.let_ ?_)
  ·rw[Yy h2,Yy h2]
   repeat(first|exact Ev.now _|with_reducible refine Ev.pos (by first|assumption|omega) ?_|with_reducible refine Ev.neg (by first|assumption|omega) ?_|with_reducible refine Ev.let_ ?_)
   refine Ev.ite (fun g=> ?_) (fun g=> ?_)
   ·rw[Yx g]
    exact Ev.now _
   ·rw[Yy g]
    exact ref_check_l0 l n b (by omega) l.length 0 (by omega)
end Q
namespace P
attribute [local go_sem] max2_int min2_int max_two min_two max_three min_three max_four min_four
def ebbtideref06_Node.f (Zb:Int) (Zc:Bool) (Za:List (S50)) (a1:Int):Option (Bool):=if a1≥0 then(some (decide (a1<Zb))) else(some false)
set_option maxHeartbeats 8000000 in
set_option maxRecDepth 100000 in
theorem ebbtideref06_Node.calls (Zb:Int) (Zc:Bool) (Ze:Option Addr) (Zd:Nat) (Za:List (S50)) (a1:Int) (r:Bool) (w:World) (Zq:Kd.C k50 w Ze Za.length Za) (Zr:Za.length≤Zd) (h:ebbtideref06_Node.f Zb Zc Za a1=some r):
  Calls Try.prog 58 #[.agg #[.int .i64 Zb, .bool Zc, .slice Ze Za.length Zd], .int .i64 a1] w fun e w'=>e= .returned (.bool r)∧Below w.heap.size w w':=by
 have hu24:=Try.underlying24;have Zk:=Ya Zq;have Zw:=Ya Zr;clear Zq Zr;have HB:=Ya (Yo w.heap.size w);have H:(if a1≥0 then(some (decide (a1<Zb))) else(some false))=some r:=h;clear h;by_cases c3:a1≥0
 rotate_left
 ·rw[Yy c3] at H
  have c3b0:decide (0≤a1)=false:=Yw c3;clear c3;obtain rfl:=Option.some.inj H;go_enter Try.func58,Try.ntmps58;go_wp2_with (first|((with_reducible refine gate_dst (N:=2) rfl ?_);refine Yz ?hg (N:=2) ?hd (cs:= #[.int .i64 Zb, .bool Zc, .slice Ze Za.length Zd]) (t:=24) ?hr ?_;(case hd=>rfl);(case hg=>rfl);(case hr=>first|(go_simp;done)|(go_simp;rfl));intro gb190 hg w6 Zg hb;have n0_:=Ya (Yk (by repeat(first|(with_reducible first|exact HB.out|apply Ye|apply Yd|apply Yg)|exact HB.out)) hb);have n1_:=Ya (Zg);have n2_:=Ya ((by rw[hg];exact(Yi (by repeat(first|(with_reducible first|exact HB.out|apply Ye|apply Yd|apply Yg)|exact HB.out))):w.heap.size≤gb190));have n3_:=Ya ((by rw[hg];exact(Yi (by repeat(first|(with_reducible first|exact HB.out|apply Ye|apply Yd|apply Yg)|exact HB.out))):w.heap.size≤gb190));clear HB;have HB:=n0_;have BK190:=n1_;have GW190:=n2_;have GE190:=n3_;clear n0_ n1_ n2_ n3_;clear hb Zg hg));go_ret;exact⟨by first|rfl|(simp[errW_none,errW_some]<;>rfl)|(simp[*,errW_none,errW_some]<;>rfl),by repeat(first|(with_reducible first|exact HB.out|apply Ye|apply Yd|apply Yg|refine Yh ?_ GE190.out)|exact HB.out)⟩
 rw[Yx c3] at H;have c3b0:decide (0≤a1)=true:=Yv c3;clear c3;obtain rfl:=Option.some.inj H;go_enter Try.func58,Try.ntmps58;go_wp2_with (first|((with_reducible refine gate_dst (N:=2) rfl ?_);refine Yz ?hg (N:=2) ?hd (cs:= #[.int .i64 Zb, .bool Zc, .slice Ze Za.length Zd]) (t:=24) ?hr ?_;(case hd=>rfl);(case hg=>rfl);(case hr=>first|(go_simp;done)|(go_simp;rfl));intro gb190 hg w4 Zg hb;have n0_:=Ya (Yk (by repeat(first|(with_reducible first|exact HB.out|apply Ye|apply Yd|apply Yg)|exact HB.out)) hb);have n1_:=Ya (Zg);have n2_:=Ya ((by rw[hg];exact(Yi (by repeat(first|(with_reducible first|exact HB.out|apply Ye|apply Yd|apply Yg)|exact HB.out))):w.heap.size≤gb190));have n3_:=Ya ((by rw[hg];exact(Yi (by repeat(first|(with_reducible first|exact HB.out|apply Ye|apply Yd|apply Yg)|exact HB.out))):w.heap.size≤gb190));clear HB;have HB:=n0_;have BK190:=n1_;have GW190:=n2_;have GE190:=n3_;clear n0_ n1_ n2_ n3_;clear hb Zg hg;have Ui:w4.cell? ⟨gb190,0,none⟩=some (.int .i64 Zb):=(Yc BK190.out 0).trans rfl;have Uj:w4.cell? ⟨gb190,1,none⟩=some (.bool Zc):=(Yc BK190.out 1).trans rfl;have Uk:w4.cell? ⟨gb190,2,none⟩=some (.slice Ze Za.length Zd):=(Yc BK190.out 2).trans rfl;have hfz5_0:=Yf BK190.out 0;have hfz5_1:=Yf BK190.out 1;have hfz5_2:=Yf BK190.out 2));go_ret;exact⟨by first|rfl|(simp[errW_none,errW_some]<;>rfl)|(simp[*,errW_none,errW_some]<;>rfl),by repeat(first|(with_reducible first|exact HB.out|apply Ye|apply Yd|apply Yg|refine Yh ?_ GE190.out)|exact HB.out)⟩
end P
namespace P
attribute [local go_sem] max2_int min2_int max_two min_two max_three min_three max_four min_four
def ebbtideref03_SameInts.l0:Nat→List Int→List Int→Int→Option (Bool)
 |0,_,_,_=>none
 |k+1,x0,x1,x5=>if x5<(x0.length:Int) then(if 0≤x5 then(if x5<(x1.length:Int) then(if (rd x0 x5)=(rd x1 x5) then(ebbtideref03_SameInts.l0 k x0 x1 (wrap64 (x5+1))) else(some false)) else(none)) else(none)) else(some true)
def ebbtideref03_SameInts.f (k:Nat) (l0:List Int) (l1:List Int):Option (Bool):=if (l0.length:Int)=(l1.length:Int) then(ebbtideref03_SameInts.l0 k l0 l1 0) else(some false)
theorem ebbtideref03_SameInts.mono_l: ∀ k,(∀ y0 y1 y2,LeO (ebbtideref03_SameInts.l0 k y0 y1 y2) (ebbtideref03_SameInts.l0 (k+1) y0 y1 y2))
 |0=>fun _ _ _ r h=>by simp[ebbtideref03_SameInts.l0] at h
 |k+1=>by
  have ih0:=ebbtideref03_SameInts.mono_l k
  ·intro y0 y1 y2
   unfold ebbtideref03_SameInts.l0;repeat' first
   |(with_reducible exact ih0 _ _ _)
   |(with_reducible exact LeO.refl _)
   |(with_reducible exact LeO.none _)
   |(with_reducible refine LeO.ite ?_ ?_)
   |(with_reducible refine LeO.bind ?_ (fun _=> ?_))
   |exact ih0 _ _ _
   |exact LeO.none _
   |refine LeO.ite ?_ ?_
   |refine LeO.bind ?_ (fun _=> ?_)
theorem ebbtideref03_SameInts.mono: ∀ a0 a1 k,LeO (ebbtideref03_SameInts.f k a0 a1) (ebbtideref03_SameInts.f (k+1) a0 a1):=by
 intro a0 a1 k;have ih0:=ebbtideref03_SameInts.mono_l k;unfold ebbtideref03_SameInts.f;repeat' first
   |(with_reducible exact ih0 _ _ _)
   |(with_reducible exact LeO.refl _)
   |(with_reducible exact LeO.none _)
   |(with_reducible refine LeO.ite ?_ ?_)
   |(with_reducible refine LeO.bind ?_ (fun _=> ?_))
   |exact ih0 _ _ _
   |exact LeO.none _
   |refine LeO.ite ?_ ?_
   |refine LeO.bind ?_ (fun _=> ?_)
set_option maxHeartbeats 8000000 in
set_option maxRecDepth 100000 in
theorem ebbtideref03_SameInts.calls (k:Nat) (A0:Option Addr) (c0:Nat) (l0:List Int) (A1:Option Addr) (c1:Nat) (l1:List Int) (r:Bool) (w:World) (hr0:Kd.C (Kd.int .i64) w A0 l0.length l0) (hc0:l0.length≤c0) (hr1:Kd.C (Kd.int .i64) w A1 l1.length l1) (hc1:l1.length≤c1) (h:ebbtideref03_SameInts.f k l0 l1=some r):
  Calls Try.prog 22 #[.slice A0 l0.length c0, .slice A1 l1.length c1] w fun e w'=>e= .returned (.bool r)∧Drawn0 w w':=by
 have HR0:=Ya hr0;have HC0:=Ya hc0;clear hr0 hc0;have HR1:=Ya hr1;have HC1:=Ya hc1;clear hr1 hc1;have H:(if (l0.length:Int)=(l1.length:Int) then(ebbtideref03_SameInts.l0 k l0 l1 0) else(some false))=some r:=h;clear h;by_cases c3:(l0.length:Int)=(l1.length:Int)
 rotate_left
 ·rw[Yy c3] at H
  have c3b0:((l0.length:Int) == (l1.length:Int))=false:=beq_eq_false_iff_ne.mpr c3;have c3b1:((l0.length:Int) != (l1.length:Int))=true:=bne_iff_ne.mpr c3;have c3b2:(l0.length == l1.length)=false:=by first|simpa using c3|(simp at c3 ⊢;omega)
  obtain rfl:=Option.some.inj H;go_enter Try.func22,Try.ntmps22;go_wp2;repeat(go_quiet (fail);try go_wp2)
  go_ret;exact⟨by first|rfl|(simp;done)|(simp[*];done),by repeat(first|exact Drawn0.refl _|apply Drawn0.step)⟩
 rw[Yx c3] at H;have c3b0:((l0.length:Int) == (l1.length:Int))=true:=beq_iff_eq.mpr c3;have c3b1:((l0.length:Int) != (l1.length:Int))=false:=bne_eq_false_iff_eq.mpr c3;have c3b2:(l0.length == l1.length)=true:=by first|simpa using c3|(simp at c3 ⊢;omega)
 clear c3;have H':=Ya H;clear H;go_enter Try.func22,Try.ntmps22;go_wp2;repeat(go_quiet (fail);try go_wp2)
 go_loopg [5] k (fun kq v5 w'=> ∃ (Zj:Int),v5= .int .i64 Zj∧Aside0 (ebbtideref03_SameInts.l0 kq l0 l1 Zj=some r)∧Aside0 (kq≤k)∧Drawn0 w w')
 case atStart=>exact⟨(0),(by first|rfl|(simp;done)|(simp[*];done)),H',⟨Nat.le_refl _⟩,by repeat(first|exact Drawn0.refl _|apply Drawn0.step)⟩
 case round=>
  clear H';try clear c1
  try clear c2
  try clear p2
  try clear c3
  try clear c3b0
  try clear c3b1
  try clear c3b2
  obtain⟨Zj,rfl,HA,HK1,⟨m1,rfl⟩⟩:=hrel;cases gk with
  |zero=>exact absurd HA.out (by simp[ebbtideref03_SameInts.l0])
  |succ k1=>
   have H:=HA.out;clear HA;simp only[ebbtideref03_SameInts.l0] at H;by_cases c4:Zj<(l0.length:Int)
   rotate_left
   ·rw[Yy c4] at H
    have c4b0:decide (Zj<(l0.length:Int))=false:=Yw c4;clear c4;obtain rfl:=Option.some.inj H;go_wp2;repeat(go_quiet (fail);try go_wp2)
    go_ret;exact⟨by first|rfl|(simp;done)|(simp[*];done),by repeat(first|exact Drawn0.refl _|apply Drawn0.step)⟩
   rw[Yx c4] at H;have c4b0:decide (Zj<(l0.length:Int))=true:=Yv c4;clear c4;by_cases c5:0≤Zj
   rotate_left
   ·rw[Yy c5] at H
    exact absurd H (by simp)
   rw[Yx c5] at H;have c5b0:decide (0≤Zj)=true:=Yv c5;clear c5;by_cases c6:Zj<(l1.length:Int)
   rotate_left
   ·rw[Yy c6] at H
    exact absurd H (by simp)
   rw[Yx c6] at H;have c6b0:decide (Zj<(l1.length:Int))=true:=Yv c6;clear c6;by_cases c7:(rd l0 Zj)=(rd l1 Zj)
   rotate_left
   ·rw[Yy c7] at H
    have c7b0:((rd l0 Zj) == (rd l1 Zj))=false:=beq_eq_false_iff_ne.mpr c7;have c7b1:((rd l0 Zj) != (rd l1 Zj))=true:=bne_iff_ne.mpr c7;obtain rfl:=Option.some.inj H;have p493:0≤(Zj:Int):=Yu (by first|(with_reducible assumption)|assumption);have q493:Zj<(l0.length:Int):=Yu (by first|(with_reducible assumption)|assumption);obtain⟨ad493,e493,hx493_0⟩:=Kd.at_int HR0.out Zj p493 q493;cases e493;replace p493:=eq_true p493;replace q493:=eq_true q493;have p494:0≤(Zj:Int):=Yu (by first|(with_reducible assumption)|assumption);have q494:Zj<(l1.length:Int):=Yu (by first|(with_reducible assumption)|assumption);obtain⟨ad494,e494,hx494_0⟩:=Kd.at_int HR1.out Zj p494 q494;cases e494;replace p494:=eq_true p494;replace q494:=eq_true q494;go_wp2;repeat(go_quiet (fail);try go_wp2)
    go_ret;exact⟨by first|rfl|(simp;done)|(simp[*];done),by repeat(first|exact Drawn0.refl _|apply Drawn0.step)⟩
   rw[Yx c7] at H;have c7b0:((rd l0 Zj) == (rd l1 Zj))=true:=beq_iff_eq.mpr c7;have c7b1:((rd l0 Zj) != (rd l1 Zj))=false:=bne_eq_false_iff_eq.mpr c7;clear c7;have H':=Ya H;clear H;have p493:0≤(Zj:Int):=Yu (by first|(with_reducible assumption)|assumption);have q493:Zj<(l0.length:Int):=Yu (by first|(with_reducible assumption)|assumption);obtain⟨ad493,e493,hx493_0⟩:=Kd.at_int HR0.out Zj p493 q493;cases e493;replace p493:=eq_true p493;replace q493:=eq_true q493;have p494:0≤(Zj:Int):=Yu (by first|(with_reducible assumption)|assumption);have q494:Zj<(l1.length:Int):=Yu (by first|(with_reducible assumption)|assumption);obtain⟨ad494,e494,hx494_0⟩:=Kd.at_int HR1.out Zj p494 q494;cases e494;replace p494:=eq_true p494;replace q494:=eq_true q494;go_wp2;repeat(go_quiet (fail);try go_wp2)
   go_roundg k1
   case measure=>have:=HK1.out;omega
   case rel=>exact⟨(wrap64 (Zj+1)),(by first|rfl|(simp;done)|(simp[*];done)),H',⟨by have:=HK1.out;omega⟩,by repeat(first|exact Drawn0.refl _|apply Drawn0.step)⟩
end P
namespace Q
open P
def flowB:List S50→List Int→Bool
 |[],[]=>true
 |a::l,x::f=>if x<0 then false else if x>a.f2 then false else flowB l f
 |_,_=>false
def askErr (n:Int) (l:List S50) (f:List Int):Int:=if netErr n l=0 then(if flowB l f=true then 0 else 71) else netErr n l
structure FlowOk (l:List S50) (f:List Int):Prop where
 len:f.length=l.length
 at_: ∀ i:Nat,i<f.length→0≤rd f i∧rd f i≤(rd_T50 l i).f2
theorem rdArc_nat (l:List S50) (i:Nat):rd_T50 l (i:Int)=l.getD i z50:=by unfold rd_T50;rw[Int.toNat_natCast]
theorem flowB_len: ∀ {l:List S50} {f:List Int},flowB l f=true→f.length=l.length
 |[],[],_=>rfl
 |[],_::_,h=>by simp[flowB] at h
 |_::_,[],h=>by simp[flowB] at h
 |a::l,x::f,h=>by
  unfold flowB at h;split at h
  ·cases h
  ·split at h
   ·cases h
   ·simp[flowB_len h]
theorem flowB_ok: ∀ {l:List S50} {f:List Int},flowB l f=true→ ∀ i:Nat,i<f.length→0≤f.getD i 0∧f.getD i 0≤(l.getD i z50).f2
 |[],[],_,i,hi=>by simp at hi
 |[],_::_,h,_,_=>by simp[flowB] at h
 |_::_,[],h,_,_=>by simp[flowB] at h
 |a::l,x::f,h,i,hi=>by
  unfold flowB at h;split at h
  ·cases h
  ·split at h
   ·cases h
   ·cases i with
    |zero=>simp;omega
    |succ i=>simpa using flowB_ok h i (by simpa using hi)
theorem flow_ok {l:List S50} {f:List Int} (h:flowB l f=true):FlowOk l f:=
 ⟨flowB_len h,fun i hi=>by rw[rd_nat,rdArc_nat];exact flowB_ok h i hi⟩
theorem flow_mk: ∀ {l:List S50} {f:List Int},f.length=l.length→(∀ i:Nat,i<f.length→0≤f.getD i 0∧f.getD i 0≤(l.getD i z50).f2)→flowB l f=true
 |[],[],_,_=>rfl
 |[],_::_,h,_=>by simp at h
 |_::_,[],h,_=>by simp at h
 |a::l,x::f,h,hf=>by
  have h0:=hf 0 (by simp);simp at h0;unfold flowB;rw[Yy (by omega),Yy (by omega)];exact flow_mk (by simpa using h) (fun i hi=>by simpa using hf (i+1) (by simpa using hi))
theorem FlowOk.int {l:List S50} {f:List Int} (h:FlowOk l f) {i:Int} (h0:0≤i) (h1:i<f.length):0≤rd f i∧rd f i≤(rd_T50 l i).f2:=by
 obtain⟨j,rfl⟩:=Int.eq_ofNat_of_zero_le h0;exact h.at_ j (by omega)
theorem FlowOk.small {n:Int} {l:List S50} {f:List Int} (h:FlowOk l f) (hn:NetOk n l) {i:Int} (h0:0≤i) (h1:i<f.length):0≤rd f i∧rd f i≤1048576:=by
 have h2:=h.int h0 h1;have h3:=(hn.at_ h0 (by rw[← h.len];exact h1)).h2;omega
theorem askErr_ok {n:Int} {l:List S50} {f:List Int} (h:askErr n l f=0):NetOk n l∧FlowOk l f:=by
 unfold askErr at h;split at h
 ·split at h
  ·exact⟨netErr_ok (by assumption),flow_ok (by assumption)⟩
  ·omega
 ·exact absurd h (by assumption)
theorem asked_l0 (l:List S50) (f:List Int) (n:Int) (b:Bool) (hl:l.length≤200) (hf:f.length=l.length) (d:Nat): ∀ i:Nat,i+d=l.length→
  Ev (fun k=>static_Asked.l0 k f (f.length:Int) (i:Int) n b l) (if flowB (l.drop i) (f.drop i)=true then 0 else 71):=by
 induction d with
 |zero=>
  intro i hi;refine Ev.succ ?_;simp only[static_Asked.l0];repeat(first|exact Ev.now _|with_reducible refine Ev.pos (by first|assumption|omega) ?_|with_reducible refine Ev.neg (by first|assumption|omega) ?_|with_reducible refine Ev.let_ ?_)
  rw[List.drop_of_length_le (by omega),List.drop_of_length_le (by omega)];exact Ev.now _
 |succ d ih=>
  intro i hi;refine Ev.succ ?_;simp only[static_Asked.l0];repeat(first|exact Ev.now _|with_reducible refine Ev.pos (by first|assumption|omega) ?_|with_reducible refine Ev.neg (by first|assumption|omega) ?_|with_reducible refine Ev.let_ ?_)
  rw[drop_getD l i z50 (by omega),drop_getD f i 0 (by omega),rdArc_nat,rd_nat];unfold flowB;refine Ev.ite (fun h=> ?_) (fun h=> ?_)
  ·rw[Yx h]
   exact Ev.now _
  ·rw[Yy h]
   repeat(first|exact Ev.now _|with_reducible refine Ev.pos (by first|assumption|omega) ?_|with_reducible refine Ev.neg (by first|assumption|omega) ?_|with_reducible refine Ev.let_ ?_)
   refine Ev.ite (fun g=> ?_) (fun g=> ?_)
   ·rw[Yx g]
    exact Ev.now _
   ·rw[Yy g,wrap_succ (n:=l.length) (by omega) (by omega)]
    exact ih (i+1) (by omega)
theorem flowB_ne {l:List S50} {f:List Int} (h: ¬ ((f.length:Int)=(l.length:Int))): ¬ flowB l f=true:=fun g=>h (by rw[flowB_len g])
theorem asked_ev (n:Int) (b:Bool) (l:List S50) (f:List Int):Ev (fun k=>static_Asked.f k n b l f) (askErr n l f):=by
 unfold static_Asked.f askErr;refine Ev.bind (check_ev n b l) ?_;refine Ev.ite (fun h=> ?_) (fun h=> ?_)
 ·rw[Yx h]
  have hn:=netErr_ok h;refine Ev.ite (fun g=> ?_) (fun g=> ?_)
  ·exact asked_l0 l f n b hn.len (by omega) l.length 0 (by omega)
  ·rw[Yy (flowB_ne g)]
   exact Ev.now _
 ·rw[Yy h]
  exact Ev.now _
theorem within_l0 (l:List S50) (f:List Int) (n:Int) (b:Bool) (hl:l.length≤200) (hf:f.length=l.length) (d:Nat): ∀ i:Nat,i+d=l.length→
  Ev (fun k=>ebbtideref07_Within.l0 k f (i:Int) n b l) (flowB (l.drop i) (f.drop i)):=by
 induction d with
 |zero=>
  intro i hi;refine Ev.succ ?_;simp only[ebbtideref07_Within.l0];repeat(first|exact Ev.now _|with_reducible refine Ev.pos (by first|assumption|omega) ?_|with_reducible refine Ev.neg (by first|assumption|omega) ?_|with_reducible refine Ev.let_ ?_)
  rw[List.drop_of_length_le (by omega),List.drop_of_length_le (by omega)];exact Ev.now _
 |succ d ih=>
  intro i hi;refine Ev.succ ?_;simp only[ebbtideref07_Within.l0];repeat(first|exact Ev.now _|with_reducible refine Ev.pos (by first|assumption|omega) ?_|with_reducible refine Ev.neg (by first|assumption|omega) ?_|with_reducible refine Ev.let_ ?_)
  rw[drop_getD l i z50 (by omega),drop_getD f i 0 (by omega),rdArc_nat,rd_nat];unfold flowB;refine Ev.ite (fun h=> ?_) (fun h=> ?_)
  ·rw[Yx h]
   exact Ev.now _
  ·rw[Yy h]
   repeat(first|exact Ev.now _|with_reducible refine Ev.pos (by first|assumption|omega) ?_|with_reducible refine Ev.neg (by first|assumption|omega) ?_|with_reducible refine Ev.let_ ?_)
   refine Ev.ite (fun g=> ?_) (fun g=> ?_)
   ·rw[Yx g]
    exact Ev.now _
   ·rw[Yy g,wrap_succ (n:=l.length) (by omega) (by omega)]
    exact ih (i+1) (by omega)
theorem within_ev (n:Int) (b:Bool) (l:List S50) (f:List Int) (hl:l.length≤200):Ev (fun k=>ebbtideref07_Within.f k n b l f) (flowB l f):=by
 unfold ebbtideref07_Within.f;refine Ev.ite (fun g=> ?_) (fun g=> ?_)
 ·exact within_l0 l f n b hl (by omega) l.length 0 (by omega)
 ·rw[Bool.eq_false_iff.2 (flowB_ne g)]
  exact Ev.now _
theorem node_eq (n:Int) (b:Bool) (l:List S50) (v:Int):ebbtideref06_Node.f n b l v=some (decide (0≤v∧v<n)):=by
 unfold ebbtideref06_Node.f;split
 ·rename_i h
  congr 1;by_cases g:v<n<;>simp[g]<;>omega
 ·rename_i h
  congr 1;symm;exact Yw (by omega)
theorem same_l0 (a b:List Int) (hb:a.length=b.length) (hl:a.length≤9223372036854775807) (d:Nat): ∀ i:Nat,i+d=a.length→
  Ev (fun k=>ebbtideref03_SameInts.l0 k a b (i:Int)) (decide (a.drop i=b.drop i)):=by
 induction d with
 |zero=>
  intro i hi;refine Ev.succ ?_;simp only[ebbtideref03_SameInts.l0];repeat(first|exact Ev.now _|with_reducible refine Ev.pos (by first|assumption|omega) ?_|with_reducible refine Ev.neg (by first|assumption|omega) ?_|with_reducible refine Ev.let_ ?_)
  rw[List.drop_of_length_le (by omega),List.drop_of_length_le (by omega)];exact Ev.now _
 |succ d ih=>
  intro i hi;refine Ev.succ ?_;simp only[ebbtideref03_SameInts.l0];repeat(first|exact Ev.now _|with_reducible refine Ev.pos (by first|assumption|omega) ?_|with_reducible refine Ev.neg (by first|assumption|omega) ?_|with_reducible refine Ev.let_ ?_)
  rw[drop_getD a i 0 (by omega),drop_getD b i 0 (by omega), ← rd_nat, ← rd_nat,wrap_succ (n:=a.length) (by omega) (by omega)];refine Ev.ite (fun g=> ?_) (fun g=> ?_)
  ·rw[g]
   exact Ev.eq (ih (i+1) (by omega)) (by simp)
  ·exact Ev.done (by simp[g])
theorem same_ev (a b:List Int) (hl:a.length≤9223372036854775807):Ev (fun k=>ebbtideref03_SameInts.f k a b) (decide (a=b)):=by
 unfold ebbtideref03_SameInts.f;refine Ev.ite (fun g=> ?_) (fun g=> ?_)
 ·exact Ev.eq (same_l0 a b (by omega) hl a.length 0 (by omega)) (by rw[List.drop_zero,List.drop_zero])
 ·exact Ev.done (by symm;exact Yw (fun h=>g (by rw[h])))
end Q
namespace Q
open P
def bal:List S50→List Int→Int→Int
 |a::l,x::f,v=>(if a.f0=v then x else 0) - (if a.f1=v then x else 0)+bal l f v
 |_,_,_=>0
theorem bal_cons (a:S50) (l:List S50) (x:Int) (f:List Int) (v:Int):bal (a::l) (x::f) v=(if a.f0=v then x else 0) - (if a.f1=v then x else 0)+bal l f v:=rfl
def balOf (n:Int) (l:List S50) (f:List Int):List Int:=(List.range n.toNat).map fun v:Nat=>bal l f v
theorem balOf_len (n:Int) (l:List S50) (f:List Int):(balOf n l f).length=n.toNat:=by simp[balOf]
theorem rd_balOf {n:Int} {l:List S50} {f:List Int} {v:Int} (h0:0≤v) (h1:v<n):rd (balOf n l f) v=bal l f v:=by
 obtain⟨j,rfl⟩:=Int.eq_ofNat_of_zero_le h0;have hj:j<n.toNat:=by omega
 rw[rd_nat,balOf,List.getD_eq_getElem?_getD];simp[hj]
def balRes (n:Int) (l:List S50) (f:List Int):List Int × Int:=if askErr n l f=0 then(balOf n l f,0) else([],askErr n l f)
theorem leaves_l0 (n m:Int) (b:Bool) (l:List S50) (f:List Int) (hn:NetOk m l) (hf:FlowOk l f) (v:Int) (d:Nat): ∀ (i:Nat) (acc:Int),i+d=l.length→ -(i * 2097152)≤acc→acc≤i * 2097152→
  Ev (fun k=>ebbtideref07_Leaves.l0 k f v acc (i:Int) n b l) (acc+bal (l.drop i) (f.drop i) v):=by
 have hlen:=hf.len;have hl:=hn.len
 induction d with
 |zero=>
  intro i acc hi h0 h1;refine Ev.succ ?_;simp only[ebbtideref07_Leaves.l0];repeat(first|exact Ev.now _|with_reducible refine Ev.pos (by first|assumption|omega) ?_|with_reducible refine Ev.neg (by first|assumption|omega) ?_|with_reducible refine Ev.let_ ?_)
  rw[List.drop_of_length_le (by omega)];exact Ev.done (by simp[bal])
 |succ d ih=>
  intro i acc hi h0 h1;have hs:=hf.small hn (i:=(i:Int)) (by omega) (by omega);refine Ev.succ ?_;simp only[ebbtideref07_Leaves.l0];repeat(first|exact Ev.now _|with_reducible refine Ev.pos (by first|assumption|omega) ?_|with_reducible refine Ev.neg (by first|assumption|omega) ?_|with_reducible refine Ev.let_ ?_)
  rw[wrap_succ (n:=l.length) (by omega) (by omega),drop_getD l i z50 (by omega),drop_getD f i 0 (by omega), ← rdArc_nat, ← rd_nat,bal_cons];refine Ev.ite (fun g=> ?_) (fun g=> ?_)
  ·rw[Yx g]
   refine Ev.ite (fun g2=> ?_) (fun g2=> ?_)
   ·rw[Yx g2,wrap_id (x:=acc+rd f (i:Int)) (by omega) (by omega),wrap_id (by omega) (by omega)]
    exact Ev.eq (ih (i+1) _ (by omega) (by omega) (by omega)) (by omega)
   ·rw[Yy g2,wrap_id (x:=acc+rd f (i:Int)) (by omega) (by omega)]
    exact Ev.eq (ih (i+1) _ (by omega) (by omega) (by omega)) (by omega)
  ·rw[Yy g]
   refine Ev.ite (fun g2=> ?_) (fun g2=> ?_)
   ·rw[Yx g2,wrap_id (x:=acc - rd f (i:Int)) (by omega) (by omega)]
    exact Ev.eq (ih (i+1) _ (by omega) (by omega) (by omega)) (by omega)
   ·rw[Yy g2]
    exact Ev.eq (ih (i+1) _ (by omega) (by omega) (by omega)) (by omega)
theorem leaves_ev (n m:Int) (b:Bool) (l:List S50) (f:List Int) (hn:NetOk m l) (hf:FlowOk l f) (v:Int):Ev (fun k=>ebbtideref07_Leaves.f k n b l f v) (bal l f v):=by
 unfold ebbtideref07_Leaves.f;exact Ev.eq (leaves_l0 n m b l f hn hf v l.length 0 0 (by omega) (by omega) (by omega)) (by rw[List.drop_zero,List.drop_zero];omega)
theorem ref_balance_l0 (n:Int) (b:Bool) (l:List S50) (f:List Int) (hn:NetOk n l) (hf:FlowOk l f) (d:Nat): ∀ (i:Nat),i+d=n.toNat→
  Ev (fun k=>ebbtideref07_Balance.l0 k f ((List.range i).map fun v:Nat=>bal l f v) (i:Int) n b l) (balOf n l f,0):=by
 have:=hn.lo;have:=hn.hi
 induction d with
 |zero=>
  intro i hi;refine Ev.succ ?_;simp only[ebbtideref07_Balance.l0];repeat(first|exact Ev.now _|with_reducible refine Ev.pos (by first|assumption|omega) ?_|with_reducible refine Ev.neg (by first|assumption|omega) ?_|with_reducible refine Ev.let_ ?_)
  exact Ev.done (by unfold balOf;rw[show i=n.toNat by omega])
 |succ d ih=>
  intro i hi;refine Ev.succ ?_;simp only[ebbtideref07_Balance.l0];repeat(first|exact Ev.now _|with_reducible refine Ev.pos (by first|assumption|omega) ?_|with_reducible refine Ev.neg (by first|assumption|omega) ?_|with_reducible refine Ev.let_ ?_)
  refine Ev.bind (leaves_ev n n b l f hn hf i) ?_;refine Ev.pos (by simp;omega) ?_;rw[wrap_succ (n:=n.toNat) (by omega) (by omega)];have e:((List.range i).map fun v:Nat=>bal l f v) ++ [bal l f (i:Int)]=(List.range (i+1)).map fun v:Nat=>bal l f v:=by simp[List.range_succ]
  rw[e];exact ih (i+1) (by omega)
theorem ref_balance_ev (n:Int) (b:Bool) (l:List S50) (f:List Int):Ev (fun k=>ebbtideref07_Balance.f k n b l f) (balRes n l f):=by
 unfold ebbtideref07_Balance.f balRes askErr;refine Ev.bind (ref_check_ev n b l) ?_;refine Ev.ite (fun h=> ?_) (fun h=> ?_)
 ·rw[Yx h]
  have hn:=netErr_ok h;refine Ev.bind (within_ev n b l f hn.len) ?_;refine Ev.ite (fun g=> ?_) (fun g=> ?_)
  ·rw[Yx g,Yx rfl]
   exact ref_balance_l0 n b l f hn (flow_ok g) n.toNat 0 (by omega)
  ·rw[Yy g,Yy (by decide)]
   exact Ev.now _
 ·rw[Yy h,Yy h]
  exact Ev.now _
theorem balRes_ok {n:Int} {l:List S50} {f:List Int} (h:askErr n l f=0):balRes n l f=(balOf n l f,0):=by unfold balRes;rw[Yx h]
theorem balRes_no {n:Int} {l:List S50} {f:List Int} (h: ¬ askErr n l f=0):balRes n l f=([],askErr n l f):=by unfold balRes;rw[Yy h]
end Q
namespace H
open P Q
theorem stRoom_in {l:List S50} {F:List Int} {n:Nat} (hr:Right l F n) {s:S79} (hs:StepOf l s):0≤stRoom l F s∧stRoom l F s≤1048576:=by
 obtain⟨i,h1,h2⟩:=hs;have:=hr.nums i h1;unfold stRoom;rw[h2,Int.toNat_natCast];split<;>omega
theorem bal_set (l:List S50) (v:Int): ∀ (f:List Int) (i:Nat) (y:Int),f.length=l.length→i<l.length→
  bal l (f.set i y) v=bal l f v+(if (rd_T50 l i).f0=v then y - f.getD i 0 else 0) - (if (rd_T50 l i).f1=v then y - f.getD i 0 else 0):=by
 induction l with
 |nil=>intro f i y h hi;simp at hi
 |cons a l ih=>
  intro f i y h hi;cases f with
  |nil=>simp at h
  |cons x f=>
   cases i with
   |zero=>
    have e:rd_T50 (a::l) ((0:Nat):Int)=a:=rfl;rw[e];simp only[List.set_cons_zero,List.getD_cons_zero,bal_cons];split<;>split<;>omega
   |succ i=>
    have e:rd_T50 (a::l) ((i+1:Nat):Int)=rd_T50 l (i:Int):=by rw[rdArc_nat,rdArc_nat];rfl
    rw[e];simp only[List.set_cons_succ,List.getD_cons_succ,bal_cons];rw[ih f i y (by simpa using h) (by simpa using hi)];omega
def Trail (l:List S50):Int→List S79→Int→Prop
 |a,[],b=>a=b
 |a,s::L,b=>StepOf l s∧stFrom l s=a∧Trail l (stTo l s) L b
theorem Trail.of {l:List S50} : ∀ {L:List S79} {a b:Int},Trail l a L b→ ∀ s,s∈L→StepOf l s
 |[],_,_,_,s,hs=>by cases hs
 |x::L,_,_,h,s,hs=>(List.mem_cons.1 hs).elim (fun e=>e▸h.1) (h.2.2.of s)
end H
namespace H
open P Q
def outR (R:Int→Bool):List S50→List Int→Int
 |a::l,x::f=>(if R a.f0 then x else 0) - (if R a.f1 then x else 0)+outR R l f
 |_,_=>0
theorem outR_cons (R:Int→Bool) (a:S50) (l:List S50) (x:Int) (f:List Int):outR R (a::l) (x::f)=(if R a.f0 then x else 0) - (if R a.f1 then x else 0)+outR R l f:=rfl
def capR (R:Int→Bool):List S50→Int
 |[]=>0
 |a::l=>(if R a.f0 && !R a.f1 then a.f2 else 0)+capR R l
theorem capR_cons (R:Int→Bool) (a:S50) (l:List S50):capR R (a::l)=(if R a.f0 && !R a.f1 then a.f2 else 0)+capR R l:=rfl
def sumR (R:Int→Bool) (g:Int→Int):Nat→Int
 |0=>0
 |n+1=>sumR R g n+(if R n then g n else 0)
theorem sumR_add (R:Int→Bool) (g h:Int→Int) (n:Nat):sumR R (fun v=>g v+h v) n=sumR R g n+sumR R h n:=by
 induction n with
 |zero=>rfl
 |succ n ih=>unfold sumR;rw[ih];split<;>omega
theorem sumR_one (R:Int→Bool) (a x:Int) (n:Nat) (h0:0≤a) (h1:a<n):sumR R (fun v=>if a=v then x else 0) n=if R a then x else 0:=by
 have aux: ∀ m:Nat,sumR R (fun v=>if a=v then x else 0) m=if a<m then(if R a then x else 0) else 0:=by
  intro m
  induction m with
  |zero=>rw[Yy (by omega)];rfl
  |succ m ih=>
   unfold sumR;rw[ih];show _+(if R m then(if a=(m:Int) then x else 0) else 0)=_;by_cases e:a=(m:Int)
   ·subst e
    rw[Yy (Int.lt_irrefl _),Yx (show (m:Int)<((m+1:Nat):Int) by omega),Yx rfl];omega
   ·have e2:(if R m then(if a=(m:Int) then x else 0) else 0)=0:=by rw[Yy e];split<;>rfl
    rw[e2];by_cases hm:a<(m:Int)
    ·rw[Yx hm,Yx (show a<((m+1:Nat):Int) by omega)]
     omega
    ·rw[Yy hm,Yy (show ¬ a<((m+1:Nat):Int) by omega)]
     omega
 rw[aux,Yx h1]
theorem sumR_zero (R:Int→Bool) (n:Nat):sumR R (fun _=>0) n=0:=by
 induction n with
 |zero=>rfl
 |succ n ih=>unfold sumR;rw[ih];simp
theorem sumR_neg (R:Int→Bool) (g:Int→Int) (n:Nat):sumR R (fun v=> -g v) n= -sumR R g n:=by
 induction n with
 |zero=>rfl
 |succ n ih=>unfold sumR;rw[ih];split<;>omega
theorem sum_bal (R:Int→Bool) (n:Nat): ∀ (l:List S50) (f:List Int),(∀ a,a∈l→(0≤a.f0∧a.f0<n)∧0≤a.f1∧a.f1<n)→f.length=l.length→sumR R (bal l f) n=outR R l f
 |[],[],_,_=>by
  have e:bal ([]:List S50) []=fun _=>0:=rfl
  rw[e,sumR_zero];rfl
 |[],_::_,_,h=>by simp at h
 |_::_,[],_,h=>by simp at h
 |a::l,x::f,h,hl=>by
  obtain⟨⟨h1,h2⟩,h3,h4⟩:=h a List.mem_cons_self;have e:bal (a::l) (x::f)=fun v=>((if a.f0=v then x else 0)+ -(if a.f1=v then x else 0))+bal l f v:=by
   funext v;rw[bal_cons];omega
  rw[e,sumR_add,sumR_add,sumR_one R _ x n h1 h2,sumR_neg,sumR_one R _ x n h3 h4,sum_bal R n l f (fun b hb=>h b (List.mem_cons_of_mem _ hb)) (by simpa using hl),outR_cons];omega
theorem sumR_ends {R:Int→Bool} {g:Int→Int} {s t:Int} (n:Nat) (hs:R s=true) (ht:R t=false) (h0:0≤s) (h1:s<n) (hg: ∀ v:Int,0≤v→v<n→v≠s→v≠t→g v=0):sumR R g n=g s:=by
 have aux: ∀ m:Nat,m≤n→sumR R g m=if s<m then g s else 0:=by
  intro m
  induction m with
  |zero=>intro _;rw[Yy (by omega)];rfl
  |succ m ih=>
   intro hm;unfold sumR;rw[ih (by omega)];show _+(if R m then g m else 0)=_;by_cases e:s=(m:Int)
   ·subst e
    rw[Yy (Int.lt_irrefl _),Yx hs,Yx (show (m:Int)<((m+1:Nat):Int) by omega)];omega
   ·have e2:(if R m then g m else 0)=0:=by
     by_cases e3:t=(m:Int)
     ·rw[← e3,ht];rfl
     ·rw[hg m (by omega) (by omega) (Ne.symm e) (Ne.symm e3)];split<;>rfl
    rw[e2];by_cases h:s<(m:Int)
    ·rw[Yx h,Yx (show s<((m+1:Nat):Int) by omega)];omega
    ·rw[Yy h,Yy (show ¬ s<((m+1:Nat):Int) by omega)];omega
 rw[aux n (Nat.le_refl _),Yx h1]
theorem outR_le (R:Int→Bool): ∀ (l:List S50) (f:List Int),flowB l f=true→outR R l f≤capR R l
 |[],[],_=>by simp[outR,capR]
 |[],_::_,h=>by simp[flowB] at h
 |_::_,[],h=>by simp[flowB] at h
 |a::l,x::f,h=>by
  unfold flowB at h;split at h
  ·cases h
  ·split at h
   ·cases h
   ·have:=outR_le R l f h
    rw[outR_cons,capR_cons];cases R a.f0<;>cases R a.f1<;>simp<;>omega
structure IsFlow (l:List S50) (F:List Int) (n:Nat) (s t:Int):Prop where
 right:Right l F n
 keeps: ∀ v:Int,0≤v→v<n→v≠s→v≠t→bal l F v=0
theorem ends_arcs {l:List S50} {n:Nat} (h:ends l n): ∀ a,a∈l→(0≤a.f0∧a.f0<n)∧0≤a.f1∧a.f1<n:=by
 intro a ha;obtain⟨i,hi,e⟩:=List.getElem_of_mem ha;have h1:=h i hi;unfold eFrom eTo at h1;rw[rdArc_nat,List.getD_eq_getElem?_getD,List.getElem?_eq_getElem hi] at h1;have e2:(some l[i]).getD z50=a:=e;rw[e2] at h1;exact h1
theorem Right.flowB {l:List S50} {F:List Int} {n:Nat} (h:Right l F n):flowB l F=true:=by
 have hl:=h.len;refine flow_mk hl fun i hi=> ?_
 have:=h.nums i (by omega);rw[rdArc_nat] at this;exact⟨this.2.2.1,this.2.2.2.1⟩
theorem value_le {l:List S50} {F:List Int} {n:Nat} {s t:Int} (h:IsFlow l F n s t) (R:Int→Bool) (hs:R s=true) (ht:R t=false) (h0:0≤s) (h1:s<n):bal l F s≤capR R l:=by
 rw[← sumR_ends n hs ht h0 h1 h.keeps,sum_bal R n l F (ends_arcs h.right.ends) h.right.len];exact outR_le R l F h.right.flowB
theorem capR_top (R:Int→Bool): ∀ (l:List S50),(∀ a,a∈l→0≤a.f2∧a.f2≤1048576)→0≤capR R l∧capR R l≤1048576 * l.length
 |[],_=>by simp[capR]
 |a::l,h=>by
  have h1:=h a List.mem_cons_self;have h2:=capR_top R l fun b hb=>h b (List.mem_cons_of_mem _ hb)
  rw[List.length_cons,capR_cons];split<;>omega
theorem Right.caps {l:List S50} {F:List Int} {n:Nat} (h:Right l F n): ∀ a,a∈l→0≤a.f2∧a.f2≤1048576:=by
 intro a ha;obtain⟨i,hi,e⟩:=List.getElem_of_mem ha;have h1:=h.nums i hi;rw[rdArc_nat,List.getD_eq_getElem?_getD,List.getElem?_eq_getElem hi] at h1;have e2:(some l[i]).getD z50=a:=e;rw[e2] at h1;omega
end H
namespace H
open P Q
def esP (l:List S50) (F:List Int) (u:Nat):List S79:=(stL l u l.length).filter fun e=>decide (0<stRoom l F e)
def toP (l:List S50) (e:S79):Nat:=(stTo l e).toNat
def frP (l:List S50) (e:S79):Nat:=(stFrom l e).toNat
def bfP (l:List S50) (F:List Int) (n s:Nat):List (Fd S79):=bfsN (toP l) (esP l F) z79 n s
theorem mem_esP {l:List S50} {F:List Int} {u:Nat} {e:S79} :e∈esP l F u↔e∈stL l u l.length∧0<stRoom l F e:=by
 unfold esP;rw[List.mem_filter,decide_eq_true_eq]
theorem frP_of {l:List S50} {u:Nat} {e:S79} (h:e∈stL l u l.length):frP l e=u:=by
 unfold frP;rw[stL_from h,Int.toNat_natCast]
theorem toP_lt {l:List S50} {F:List Int} {n:Nat} (hr:Right l F n) {s:S79} (hs:StepOf l s):toP l s<n:=by
 have:=stTo_in hr hs;unfold toP;omega
theorem frP_lt {l:List S50} {F:List Int} {n:Nat} (hr:Right l F n) {s:S79} (hs:StepOf l s):frP l s<n:=by
 have:=stFrom_in hr hs;unfold frP;omega
theorem esP_to {l:List S50} {F:List Int} {n:Nat} (hr:Right l F n): ∀ (u:Nat) (e:S79),e∈esP l F u→toP l e<n:=fun u e he=>toP_lt hr (stL_of (mem_esP.1 he).1)
theorem esP_fr {l:List S50} {F:List Int} : ∀ (u:Nat) (e:S79),e∈esP l F u→frP l e=u:=fun u e he=>frP_of (mem_esP.1 he).1
theorem esP_of {l:List S50} {F:List Int} {n:Nat} (hr:Right l F n) {e:S79} (hs:StepOf l e) (h:0<stRoom l F e):e∈esP l F (frP l e):=by
 refine mem_esP.2 ⟨?_,h⟩;have hf:=stFrom_in hr hs;rw[mem_stL];unfold frP;rw[Int.toNat_of_nonneg hf.1];obtain⟨i,h1,h2⟩:=hs;refine⟨i,h1,h2,?_⟩;unfold stFrom;rw[h2];cases e.f1
 ·exact .inl ⟨rfl,rfl⟩
 ·exact .inr ⟨rfl,rfl⟩
theorem bfP_upto {l:List S50} {F:List Int} {n s:Nat} (hr:Right l F n) (hs:s<n):Upto (frP l) (toP l) (esP l F) s (bfP l F n s).length (bfP l F n s):=bfsN_upto (esP_to hr) hs
theorem bfP_head {l:List S50} {F:List Int} {n s:Nat} (hr:Right l F n) (hs:s<n): ∃ x,x∈bfP l F n s∧x.v=s∧x.lv=0:=by
 obtain⟨x,r,h1,h2,h3⟩:=(bfP_upto hr hs).fds.head;exact⟨x,by rw[h1];exact List.mem_cons_self,h2,h3⟩
def netG (l:List S50) (F D:List Int):Net_ S79:=⟨fun v=>stL l v l.length,toP l,frP l,fun v=>D.getD v 0,fun e=>decide (0<stRoom l F e)⟩
theorem leads_trail {l:List S50} {F:List Int} {n:Nat} (hr:Right l F n) {rows:Nat→List S79} (hrows: ∀ u e,e∈rows u→e∈stL l u l.length): ∀ {L:List S79} {s t:Nat},Leads (toP l) rows s L t→Trail l s L t
 |[],s,t,h=>by cases h;rfl
 |x::L,s,t,h=>by
  have hx:=hrows _ _ h.1;refine⟨stL_of hx,stL_from hx,?_⟩;have h1:=stTo_in hr (stL_of hx);have h2:=leads_trail hr hrows h.2;unfold toP at h2;rw[Int.toNat_of_nonneg h1.1] at h2;exact h2
theorem flow_top {l:List S50} {F:List Int} {n s t:Nat} (hf:IsFlow l F n s t) (hs:s<n) (hst:s≠t):bal l F s≤209715200:=by
 have h1:=value_le hf (fun v=>decide (v=(s:Int))) (by simp) (by simp;omega) (by omega) (by omega);have h2:=capR_top (fun v=>decide (v=(s:Int))) l hf.right.caps;have h3:=hf.right.arcs;have h4:1048576 * (l.length:Int)≤1048576 * 200:=by omega
 omega
def sideP (l:List S50) (F:List Int) (n s:Nat) (v:Int):Bool:=decide (0≤v∧v.toNat∈nodes (bfP l F n s))
theorem side_closed {l:List S50} {F:List Int} {n s:Nat} (hr:Right l F n) (hs:s<n): ∀ e:S79,StepOf l e→0<stRoom l F e→sideP l F n s (stFrom l e)=true→sideP l F n s (stTo l e)=true:=by
 intro e he hroom h;unfold sideP at h ⊢;rw[decide_eq_true_eq] at h ⊢;obtain⟨x,hx,hxv⟩:=List.mem_map.1 h.2;have h1:=esP_of hr he hroom;have h2:frP l e=x.v:=hxv.symm;rw[h2] at h1;obtain⟨y,hy,h3,_⟩:=bfsN_closed (z:=z79) (esP_to hr) hs hx h1;have h4:=stTo_in hr he;exact⟨h4.1,List.mem_map.2 ⟨y,hy,h3⟩⟩
end H
namespace H
open P Q
theorem sideP_iff {l:List S50} {F:List Int} {n s v:Nat} :sideP l F n s v=true↔v∈nodes (bfP l F n s):=by
 unfold sideP;rw[decide_eq_true_eq,Int.toNat_natCast];exact⟨fun h=>h.2,fun h=>⟨by omega,h⟩⟩
end H
namespace H
open P Q
def wayP (l:List S50) (F:List Int) (n s t:Nat):List S79:=if t∈nodes (bfP l F n s) then wayL (frP l) (bfP l F n s) s t else []
def endsErr (n:Int) (l:List S50) (s t:Int):Int:=if netErr n l=0 then(if 0≤s∧s<n∧0≤t∧t<n∧s≠t then 0 else 70) else netErr n l
end H
namespace H
open P Q
structure Seen (l:List S50) (F:List Int) (n s:Nat) (t:Int) (st:List (Fd S79)):Prop where
 pre: ∃ r,bfP l F n s=st ++ r
 fds:Fds (frP l) (toP l) (esP l F) s st
 hit:st=bfP l F n s∨ ∃ tn:Nat,t=tn∧tn∈nodes st
structure Lp (l:List S50) (F:List Int) (n s:Nat) (t:Int) (st:List (Fd S79)) (i:Nat):Prop where
 upto:Upto (frP l) (toP l) (esP l F) s i st
 rest:bfs (toP l) (esP l F) (n - i) i st=bfP l F n s
 ile:i≤st.length
 nott: ∀ tn:Nat,t=tn→tn ∉ nodes st
structure Li (l:List S50) (F:List Int) (n s:Nat) (t:Int) (x:Fd S79) (X stj:List (Fd S79)) (i j:Nat):Prop where
 fds:Fds (frP l) (toP l) (esP l F) s stj
 mst: ∀ y,y∈stj→y.lv≤x.lv+1
 at_:stj[i]? =some x
 tail:(((stL l x.v l.length).drop j).filter fun e=>decide (0<stRoom l F e)).foldl (vis (toP l) x.lv) stj=X
 nott: ∀ tn:Nat,t=tn→tn ∉ nodes stj
section
variable {l:List S50} {F:List Int} {n s:Nat} {t:Int}
theorem lp_start (hs:s<n) (ht:t≠s):Lp l F n s t [⟨s,z79,0⟩] 0:=
 ⟨upto_start _ _ _ _ _,rfl,Nat.zero_le _,fun tn e hm=>by simp[nodes] at hm;omega⟩
theorem Lp.seen {st:List (Fd S79)} {i:Nat} (h:Lp l F n s t st i) (hi:i=st.length):Seen l F n s t st:=by
 have e:st=bfP l F n s:=by
  rw[← h.rest];cases n - i with
  |zero=>rfl
  |succ k=>unfold bfs;rw[List.getElem?_eq_none (by omega)]
 exact⟨⟨[],by rw[List.append_nil, ← e]⟩,h.upto.fds, .inl e⟩
theorem Lp.len (hr:Right l F n) (hs:s<n) {st:List (Fd S79)} {i:Nat} (h:Lp l F n s t st i):st.length≤n:=fds_len h.upto.fds (esP_to hr) hs
theorem Lp.inner {st:List (Fd S79)} {i:Nat} (h:Lp l F n s t st i) {x:Fd S79} (hx:st[i]? =some x):Li l F n s t x (proc (toP l) (esP l F) st x) st i 0:=
 ⟨h.upto.fds,h.upto.most x hx,hx,by rw[List.drop_zero];rfl,h.nott⟩
theorem Li.next (hr:Right l F n) (hs:s<n) {st:List (Fd S79)} {i:Nat} (h:Lp l F n s t st i) {x:Fd S79} (hx:st[i]? =some x) {stj:List (Fd S79)} (hj:Li l F n s t x (proc (toP l) (esP l F) st x) stj i (stL l x.v l.length).length):Lp l F n s t stj (i+1):=by
 have e:stj=proc (toP l) (esP l F) st x:=by
  have:=hj.tail;rw[List.drop_of_length_le (Nat.le_refl _)] at this;exact this
 have hil:=(List.getElem?_eq_some_iff.1 hx).1;have hl:=h.len hr hs;refine⟨by rw[e];exact h.upto.next hx,?_,?_,hj.nott⟩
 ·have hrest:=h.rest
  rw[show n - i=(n - (i+1))+1 by omega] at hrest;rw[e, ← hrest];rw[bfs,hx]
 ·have:=(List.getElem?_eq_some_iff.1 hj.at_).1
  omega
theorem row_drop {x:Fd S79} {j:Nat} {e:S79} (he:(stL l x.v l.length)[j]? =some e):(stL l x.v l.length).drop j=e::(stL l x.v l.length).drop (j+1):=by
 obtain⟨hlt,h⟩:=List.getElem?_eq_some_iff.1 he;rw[List.drop_eq_getElem_cons hlt,h]
theorem Li.skip {x:Fd S79} {X stj:List (Fd S79)} {i j:Nat} (h:Li l F n s t x X stj i j) {e:S79} (he:(stL l x.v l.length)[j]? =some e) (h0: ¬ 0<stRoom l F e∨toP l e∈nodes stj):Li l F n s t x X stj i (j+1):=by
 refine⟨h.fds,h.mst,h.at_,?_,h.nott⟩;have ht:=h.tail;rw[row_drop he,List.filter_cons] at ht;by_cases hr:0<stRoom l F e
 ·rw[Yx (by simpa using hr),List.foldl_cons] at ht
  have hv:vis (toP l) x.lv stj e=stj:=by unfold vis;rw[Yx (h0.resolve_left (fun h=>h hr))]
  rw[hv] at ht;exact ht
 ·rw[Yy (by simpa using hr)] at ht
  exact ht
theorem Li.add {x:Fd S79} {X stj:List (Fd S79)} {i j:Nat} (h:Li l F n s t x X stj i j) {e:S79} (he:(stL l x.v l.length)[j]? =some e) (hr:0<stRoom l F e) (hn:toP l e ∉ nodes stj):
  Fds (frP l) (toP l) (esP l F) s (stj ++ [⟨toP l e,e,x.lv+1⟩])∧(∀ y,y∈stj ++ [⟨toP l e,e,x.lv+1⟩]→y.lv≤x.lv+1)∧(((stL l x.v l.length).drop (j+1)).filter fun e=>decide (0<stRoom l F e)).foldl (vis (toP l) x.lv) (stj ++ [⟨toP l e,e,x.lv+1⟩])=X∧(stj ++ [⟨toP l e,e,x.lv+1⟩])[i]? =some x:=by
 have hv:vis (toP l) x.lv stj e=stj ++ [⟨toP l e,e,x.lv+1⟩]:=by unfold vis;rw[Yy hn]
 obtain⟨h1,h2⟩:=h.fds.vis h.at_ h.mst (mem_esP.2 ⟨List.mem_of_getElem? he,hr⟩);rw[hv] at h1 h2;have ht:=h.tail;rw[row_drop he,List.filter_cons,Yx (by simpa using hr),List.foldl_cons,hv] at ht;exact⟨h1,h2,ht,by rw[List.getElem?_append_left (List.getElem?_eq_some_iff.1 h.at_).1];exact h.at_⟩
theorem Li.put {x:Fd S79} {X stj:List (Fd S79)} {i j:Nat} (h:Li l F n s t x X stj i j) {e:S79} (he:(stL l x.v l.length)[j]? =some e) (hr:0<stRoom l F e) (hn:toP l e ∉ nodes stj) (ht:t≠toP l e):Li l F n s t x X (stj ++ [⟨toP l e,e,x.lv+1⟩]) i (j+1):=by
 obtain⟨h1,h2,h3,h4⟩:=h.add he hr hn;refine⟨h1,h2,h4,h3,fun tn etn hm=> ?_⟩;rw[nodes_app] at hm;rcases List.mem_append.1 hm with hm|hm
 ·exact h.nott tn etn hm
 ·simp[nodes] at hm
  exact ht (by rw[etn,hm])
theorem Li.found {st:List (Fd S79)} {i:Nat} (hp:Lp l F n s t st i) {x:Fd S79} (hx:st[i]? =some x) (hi:i<n) {stj:List (Fd S79)} {j:Nat} (h:Li l F n s t x (proc (toP l) (esP l F) st x) stj i j) {e:S79} (he:(stL l x.v l.length)[j]? =some e) (hr:0<stRoom l F e) (hn:toP l e ∉ nodes stj) (ht:t=toP l e):
  Seen l F n s t (stj ++ [⟨toP l e,e,x.lv+1⟩]):=by
 obtain⟨h1,h2,h3,h4⟩:=h.add he hr hn;refine⟨?_,h1, .inr ⟨toP l e,ht,by rw[nodes_app];exact List.mem_append_right _ (by simp[nodes])⟩⟩;obtain⟨r,hr1⟩:=fold_pre (toP l) x.lv (((stL l x.v l.length).drop (j+1)).filter fun e=>decide (0<stRoom l F e)) (stj ++ [⟨toP l e,e,x.lv+1⟩]);obtain⟨q,hq⟩:=bfs_pre (toP l) (esP l F) (n - (i+1)) (i+1) (proc (toP l) (esP l F) st x);have hrest:=hp.rest;rw[show n - i=(n - (i+1))+1 by omega,bfs,hx] at hrest;refine⟨r ++ q,?_⟩;rw[← hrest];show bfs (toP l) (esP l F) (n - (i+1)) (i+1) (proc (toP l) (esP l F) st x)=_;rw[hq, ← h3,hr1,List.append_assoc]
def qOf (st:List (Fd S79)) (i:Nat):List Int:=((nodes st).drop i).map fun v:Nat=>(v:Int)
theorem qOf_cons {st:List (Fd S79)} {i:Nat} {x:Fd S79} (hx:st[i]? =some x):qOf st i=(x.v:Int)::qOf st (i+1):=by
 obtain⟨hlt,h⟩:=List.getElem?_eq_some_iff.1 hx;unfold qOf nodes;rw[List.drop_eq_getElem_cons (by simpa using hlt),List.map_cons,List.getElem_map,h]
theorem qOf_snoc {st:List (Fd S79)} {i:Nat} (hi:i≤st.length) (y:Fd S79):qOf (st ++ [y]) i=qOf st i ++ [(y.v:Int)]:=by
 unfold qOf;rw[nodes_app,List.drop_append_of_le_length (by unfold nodes;simpa using hi),List.map_append];rfl
end
end H
namespace H
open P
structure Ks (S:Nat→Prop) (w w':World):Prop where
 os:w'.os=w.os
 tape:w'.tape=w.tape
 output:w'.output=w.output
 size:w.heap.size≤w'.heap.size
 block: ∀ k,k<w.heap.size→ ¬ S k→w'.heap[k]? =w.heap[k]?
section
variable {S T:Nat→Prop} {w w1 w2:World}
theorem Ks.refl (S:Nat→Prop) (w:World):Ks S w w:=⟨rfl,rfl,rfl,Nat.le_refl _,fun _ _ _=>rfl⟩
theorem Ks.trans (h:Ks S w w1) (k:Ks T w1 w2) (hT: ∀ b,T b→b<w.heap.size→S b):Ks S w w2:=
 ⟨k.os.trans h.os,k.tape.trans h.tape,k.output.trans h.output,Nat.le_trans h.size k.size,fun b hb hs=>(k.block b (Nat.lt_of_lt_of_le hb h.size) (fun ht=>hs (hT b ht hb))).trans (h.block b hb hs)⟩
theorem Ks.of_below (h:Below w.heap.size w w1) (S:Nat→Prop):Ks S w w1:=⟨h.os,h.tape,h.output,h.size,fun b hb _=>h.block b hb⟩
theorem Ks.below (h:Ks S w w1) (hb:Below w1.heap.size w1 w2):Ks S w w2:=h.trans (Ks.of_below hb (fun _=>False)) (fun _ h=>h.elim)
theorem Ks.trans' {w0:World} (h:Ks S w w1) (hb:Below w0.heap.size w0 w):Ks S w0 w1:=(Ks.of_below hb S).trans h (fun _ h _=>h)
theorem Ks.set (h:Ks S w w1) {g:Nat} (hg:g<w.heap.size→S g) (j:Nat) (u:Value):Ks S w (w1.setCell ⟨g,j,none⟩ u):=
 ⟨h.os,h.tape,h.output,by simpa [World.setCell] using h.size,fun k hk hs=>(Below.heap_setCell w1 ⟨g,j,none⟩ u k (by rintro rfl;exact hs (hg hk))).trans (h.block k hk hs)⟩
theorem Ks.mono (h:Ks S w w1) (hT: ∀ b,S b→b<w.heap.size→T b):Ks T w w1:=⟨h.os,h.tape,h.output,h.size,fun b hb ht=>h.block b hb (fun hs=>ht (hT b hs hb))⟩
theorem Ks.toBelow {B:Nat} {w0:World} (h:Ks S w w1) (hb:Below B w0 w) (hB:B≤w.heap.size) (hS: ∀ b,S b→B≤b):Below B w0 w1:=
 hb.trans ⟨h.os,h.tape,h.output,h.size,fun k hk=>h.block k (by omega) (fun hs=>by have:=hS k hs;omega)⟩
theorem Ks.blk (h:Ks S w w1) {g:Nat} {o:Obj} (hb:w.heap[g]? =some o) (hs: ¬ S g):w1.heap[g]? =some o:=(h.block g (blk_lt hb) hs).trans hb
theorem Ks.F {α:Type} {d:Kd α} {n:Nat} {ok:Nat→Prop} {A:Option Addr} {xs:List α} (h:Ks S w w1) (hr:Kd.F d w ok A n xs) (hok: ∀ k,ok k→k<w.heap.size→ ¬ S k):Kd.F d w1 ok A n xs:=Kd.F_step hr (fun k ho hlt=>h.block k hlt (hok k ho hlt))
end
structure Qu (w:World) (g:Nat) (A:Option Addr) (R:List Int) (fr sz mo:Nat):Prop where
 hd:w.heap[g]? =some (.cells #[.slice A R.length R.length, .int .i64 (fr:Nat), .int .i64 (sz:Nat), .int .i64 (mo:Nat)] 149 (0,0))
 ring:(A=none∧R=[])∨ ∃ b,A=some ⟨b,0,none⟩∧0<R.length∧w.heap[b]? =some (.cells (nums .i64 R).toArray 3 (0,0))
 szr:sz≤R.length
 frr:fr<R.length∨fr=0∧R=[]
 szm:sz≤mo
 mo50:mo≤50
 len:R.length≤200
def quS (g:Nat) (A:Option Addr) (k:Nat):Prop:=k=g∨ ∃ a,A=some a∧k=a.block
def qL (R:List Int) (fr sz:Nat):List Int:=(List.range sz).map fun i=>R.getD ((fr+i) % R.length) 0
theorem Qu.step {w w1:World} {g:Nat} {A:Option Addr} {R:List Int} {fr sz mo:Nat} (h:Qu w g A R fr sz mo) (hb: ∀ k,k<w.heap.size→quS g A k→w1.heap[k]? =w.heap[k]?):Qu w1 g A R fr sz mo:=by
 refine⟨(hb g (blk_lt h.hd) (.inl rfl)).trans h.hd,?_,h.szr,h.frr,h.szm,h.mo50,h.len⟩;rcases h.ring with h1|⟨b,h1,h2,h3⟩
 ·exact .inl h1
 ·exact .inr ⟨b,h1,h2,(hb b (blk_lt h3) (.inr ⟨_,h1,rfl⟩)).trans h3⟩
theorem Qu.below {w w1:World} {g:Nat} {A:Option Addr} {R:List Int} {fr sz mo:Nat} (h:Qu w g A R fr sz mo) (hb:Below w.heap.size w w1):Qu w1 g A R fr sz mo:=h.step fun k hk _=>hb.block k hk
theorem Qu.ne {w:World} {g b:Nat} {R:List Int} {fr sz mo:Nat} (h:Qu w g (some ⟨b,0,none⟩) R fr sz mo):g≠b:=by
 rcases h.ring with ⟨h1,_⟩|⟨c,h1,h2,h3⟩
 ·cases h1
 ·cases h1
  exact blk_ne h.hd h3 (by decide)
theorem nums_get (R:List Int) (j:Nat) (h:j<R.length):(nums .i64 R).toArray[j]? =some (.int .i64 (R.getD j 0)):=by
 simp[nums,List.getD_eq_getElem?_getD,List.getElem?_eq_getElem h]
theorem mod_add_one (a b m:Nat):((a+1) % m+b) % m=(a+(b+1)) % m:=by
 rw[Nat.mod_add_mod];congr 1;omega
theorem qL_take (R:List Int) (fr sz:Nat) (hf:fr<R.length):qL R fr (sz+1)=R.getD fr 0::qL R ((fr+1) % R.length) sz:=by
 unfold qL;rw[List.range_succ_eq_map,List.map_cons,Nat.add_zero,Nat.mod_eq_of_lt hf,List.map_map];congr 1;apply List.map_congr_left;intro i _;show R.getD ((fr+(i+1)) % R.length) 0=R.getD (((fr+1) % R.length+i) % R.length) 0;rw[mod_add_one]
attribute [local irreducible] wpQuiet
set_option maxHeartbeats 1000000 in
set_option maxRecDepth 100000 in
theorem que_len (g:Nat) (A:Option Addr) (R:List Int) (fr sz mo:Nat) (w:World) (h:Qu w g A R fr sz mo):
  Calls Try.prog 102 #[.pointer (some ⟨g,0,none⟩)] w fun e w'=>e= .returned (.int .i64 sz)∧w'=w:=by
 have c2:w.cell? ⟨g,2,none⟩=some (.int .i64 sz):=(Yc h.hd 2).trans rfl;clear h;go_enter Try.func102,Try.ntmps102;go_wp2;go_ret;exact⟨rfl,rfl⟩
set_option maxHeartbeats 1000000 in
set_option maxRecDepth 100000 in
theorem take_core (g b m fr sz:Nat) (x:Int) (w:World) (c0:w.cell? ⟨g,0,none⟩=some (.slice (some ⟨b,0,none⟩) m m)) (c1:w.cell? ⟨g,1,none⟩=some (.int .i64 fr)) (c2:w.cell? ⟨g,2,none⟩=some (.int .i64 (sz+1:Nat)))
  (c3:w.cell? ⟨b,fr,none⟩=some (.int .i64 x)) (f1:w.frozen? ⟨g,1,none⟩=false) (f2:w.frozen? ⟨g,2,none⟩=false) (hne:g≠b) (p0:(0:Int)≤(fr:Int)) (p1:(fr:Int)<(m:Int)) (p2:(m:Int)≤200) (p4:(sz:Int)+1≤50) (p5:(0:Int)≤(sz:Int)):
  Calls Try.prog 103 #[.pointer (some ⟨g,0,none⟩)] w fun e w'=>e= .returned (.tuple #[.int .i64 x, .int .i64 0])∧w'=((w.setCell ⟨g,1,none⟩ (.int .i64 (((fr:Int)+1) % (m:Int)))).setCell ⟨g,2,none⟩ (.int .i64 sz)).drew.drew:=by
 have hu:=Try.underlying149;have p3:(0:Int)<(m:Int):=by omega
 have e1:((sz:Int)+1 == 0)=false:=beq_eq_false_iff_ne.2 (by omega);go_enter Try.func103,Try.ntmps103;go_wp2_with fail;go_region;go_wp2_with fail;go_region;go_wp2_with fail;go_ret2;exact⟨rfl,rfl⟩
theorem que_take (g b:Nat) (R:List Int) (fr sz mo:Nat) (w:World) (h:Qu w g (some ⟨b,0,none⟩) R fr (sz+1) mo):
  Calls Try.prog 103 #[.pointer (some ⟨g,0,none⟩)] w fun e w'=>e= .returned (.tuple #[.int .i64 (R.getD fr 0), .int .i64 0])∧Qu w' g (some ⟨b,0,none⟩) R ((fr+1) % R.length) sz mo∧Ks (fun k=>k=g) w w':=by
 have hfr:fr<R.length:=by
  rcases h.frr with h1|⟨_,h1⟩
  ·exact h1
  ·have:=h.szr;rw[h1] at this;simp at this
 have hl:=h.len;have hring:w.heap[b]? =some (.cells (nums .i64 R).toArray 3 (0,0)):=by
  rcases h.ring with ⟨h1,_⟩|⟨c,h1,h2,h3⟩
  ·cases h1
  ·cases h1;exact h3
 have hm:=h.szm;have h50:=h.mo50;refine(take_core g b R.length fr sz (R.getD fr 0) w ((Yc h.hd 0).trans rfl) ((Yc h.hd 1).trans rfl) ((Yc h.hd 2).trans rfl) ((Yc hring fr).trans (nums_get R fr hfr)) (Yf h.hd 1) (Yf h.hd 2) h.ne (by omega) (by omega) (by omega) (by omega) (by omega)).mono ?_;rintro e w' ⟨rfl,rfl⟩;have he:((fr:Int)+1) % (R.length:Int)=(((fr+1) % R.length:Nat):Int):=by rw[Int.natCast_emod];rfl
 rw[he];refine⟨rfl,⟨blk_set (blk_set h.hd 1 _) 2 _, .inr ⟨b,rfl,by omega,?_⟩,by have:=h.szr;omega, .inl (Nat.mod_lt _ (by omega)),by omega,h50,hl⟩,?_⟩
 ·exact blk_far (blk_far hring (p:=⟨g,1,none⟩) (Ne.symm h.ne) _) (p:=⟨g,2,none⟩) (Ne.symm h.ne) _
 ·exact(((Ks.refl (fun k=>k=g) w).set (g:=g) (fun _=>rfl) 1 _).set (g:=g) (fun _=>rfl) 2 _).below (below_drew (below_drew (Yo _ _)))
end H
namespace H
open P
def IsI (w:World) (g:Nat) (D:List Int):Prop:=w.heap[g]? =some (.cells (nums .i64 D).toArray 3 (0,0))
def stC (B:List S79):List Value:=B.flatMap fun s=>[.int .i64 s.f0, .bool s.f1]
def IsS (w:World) (g:Nat) (B:List S79):Prop:=w.heap[g]? =some (.cells (stC B).toArray 79 (0,0))
theorem stC_len (B:List S79):(stC B).length=2 * B.length:=by
 induction B with
 |nil=>rfl
 |cons s B ih=>show ([_,_] ++ stC B).length=_;rw[List.length_append,ih,List.length_cons];simp;omega
theorem stC_cons (s:S79) (B:List S79):stC (s::B)= .int .i64 s.f0:: .bool s.f1::stC B:=rfl
theorem stC_get (z:S79): ∀ (B:List S79) (u:Nat),u<B.length→(stC B)[u * 2]? =some (.int .i64 (B.getD u z).f0)∧(stC B)[u * 2+1]? =some (.bool (B.getD u z).f1)
 |[],u,h=>by simp at h
 |s::B,0,_=>⟨rfl,rfl⟩
 |s::B,u+1,h=>by
  have:=stC_get z B u (by simpa using h);rw[stC_cons,show (u+1) * 2=(u * 2+1)+1 by omega,List.getElem?_cons_succ,List.getElem?_cons_succ,List.getElem?_cons_succ,List.getElem?_cons_succ,List.getD_cons_succ];exact this
theorem stC_set: ∀ (B:List S79) (u:Nat) (s:S79),((stC B).set (u * 2) (.int .i64 s.f0)).set (u * 2+1) (.bool s.f1)=stC (B.set u s)
 |[],u,s=>rfl
 |x::B,0,s=>rfl
 |x::B,u+1,s=>by
  rw[stC_cons,show (u+1) * 2=(u * 2+1)+1 by omega,List.set_cons_succ,List.set_cons_succ,List.set_cons_succ,List.set_cons_succ,stC_set B u s];rfl
section
variable {w w1:World} {g:Nat} {D:List Int} {B:List S79}
theorem IsI.lt (h:IsI w g D):g<w.heap.size:=blk_lt h
theorem IsS.lt (h:IsS w g B):g<w.heap.size:=blk_lt h
theorem IsI.same (h:IsI w g D) (e:w1.heap[g]? =w.heap[g]?):IsI w1 g D:=e.trans h
theorem IsS.same (h:IsS w g B) (e:w1.heap[g]? =w.heap[g]?):IsS w1 g B:=e.trans h
theorem IsI.below (h:IsI w g D) (hb:Below w.heap.size w w1):IsI w1 g D:=h.same (hb.block g h.lt)
theorem IsS.below (h:IsS w g B) (hb:Below w.heap.size w w1):IsS w1 g B:=h.same (hb.block g h.lt)
theorem IsI.kept {S:Nat→Prop} (h:IsI w g D) (hk:Ks S w w1) (hs: ¬ S g):IsI w1 g D:=hk.blk h hs
theorem IsS.kept {S:Nat→Prop} (h:IsS w g B) (hk:Ks S w w1) (hs: ¬ S g):IsS w1 g B:=hk.blk h hs
theorem IsI.far (h:IsI w g D) {p:Addr} (hp:g≠p.block) (u:Value):IsI (w.setCell p u) g D:=blk_far h hp u
theorem IsS.far (h:IsS w g B) {p:Addr} (hp:g≠p.block) (u:Value):IsS (w.setCell p u) g B:=blk_far h hp u
theorem IsI.cell (h:IsI w g D) {j:Nat} (hj:j<D.length):w.cell? ⟨g,j,none⟩=some (.int .i64 (D.getD j 0)):=(Yc h j).trans (nums_get D j hj)
theorem IsI.free (h:IsI w g D) (j:Nat):w.frozen? ⟨g,j,none⟩=false:=Yf h j
theorem IsS.free (h:IsS w g B) (j:Nat):w.frozen? ⟨g,j,none⟩=false:=Yf h j
theorem IsS.cell (h:IsS w g B) (z:S79) {j:Nat} (hj:j<B.length):w.cell? ⟨g,j * 2,none⟩=some (.int .i64 (B.getD j z).f0)∧w.cell? ⟨g,j * 2+1,none⟩=some (.bool (B.getD j z).f1):=by
 obtain⟨h1,h2⟩:=stC_get z B j hj;exact⟨(Yc h _).trans (by simpa using h1),(Yc h _).trans (by simpa using h2)⟩
theorem IsI.put (h:IsI w g D) (j:Nat) (x:Int):IsI (w.setCell ⟨g,j,none⟩ (.int .i64 x)) g (D.set j x):=by
 refine(blk_set h j _).trans ?_;simp[nums,List.map_set]
theorem IsS.put (h:IsS w g B) (j:Nat) (s:S79):IsS ((w.setCell ⟨g,j * 2,none⟩ (.int .i64 s.f0)).setCell ⟨g,j * 2+1,none⟩ (.bool s.f1)) g (B.set j s):=by
 refine(blk_set (blk_set h (j * 2) _) (j * 2+1) _).trans ?_;rw[← stC_set];simp
theorem IsI.R (h:IsI w g D) (hl:D.length≤9223372036854775807) {base:Nat} (hb:base≤g) {ok:Nat→Prop} (hok:ok g):Kd.R (Kd.int .i64) 3 w base ok (.slice (some ⟨g,0,none⟩) D.length D.length) D:=by
 refine Kd.R_of_own (enc:=Value.int .i64) ?_ (fun k hk=> ?_)
 ·refine⟨by simp[encs], .inr ⟨g,D.length,_,rfl,hb,h,Nat.le_refl _,by simp only[maxLen];omega,by simp[nums],?_⟩⟩
  simp only[nums,encs,Nat.mul_one];exact List.take_of_length_le (by simp)
 ·have:g=k:=by simpa [Value.ownBlock] using hk
  subst this;exact hok
theorem IsS.R (h:IsS w g B) (hl:B.length≤9223372036854775807) {base:Nat} (hb:base≤g) {ok:Nat→Prop} (hok:ok g):Kd.R k79 79 w base ok (.slice (some ⟨g,0,none⟩) B.length B.length) B:=by
 refine⟨fun k hk=> ?_,stC B,⟨?_, .inr ⟨g,B.length,_,rfl,hb,h,Nat.le_refl _,by simp only[maxLen];omega,?_,?_⟩⟩,?_,fun j p hj=> ?_⟩
 ·have:g=k:=by simpa [Value.ownBlock] using hk
  subst this;exact hok
 ·rw[stC_len];show 2 * B.length=B.length * 2;omega
 ·show (stC B).toArray.size=B.length * 2
  rw[List.size_toArray,stC_len];omega
 ·show (stC B).toArray.toList.take (B.length * 2)=stC B
  rw[List.take_of_length_le (by simp[stC_len];omega)]
 ·rw[stC_len];show 2 * B.length=B.length * 2;omega
 ·obtain⟨hlt,hp⟩:=List.getElem?_eq_some_iff.1 hj
  obtain⟨h1,h2⟩:=stC_get p B j hlt;have hg:B.getD j p=p:=by rw[List.getD_eq_getElem?_getD,hj];rfl
  rw[hg] at h1 h2;have e:((stC B).drop (j * 2)).take 2=[.int .i64 p.f0, .bool p.f1]:=by
   apply List.ext_getElem?;intro m;rw[List.getElem?_take,List.getElem?_drop]
   match m with
   |0=>rw[Yx (by omega),Nat.add_zero,h1];rfl
   |1=>rw[Yx (by omega),h2];rfl
   |m+2=>rw[Yy (by omega)];rfl
  show Kd.M k79 w base _ p (((stC B).drop (j * 2)).take 2);rw[e];exact k79_mkM _ _ _ p
end
end H
namespace P
attribute [local go_sem] max2_int min2_int max_two min_two max_three min_three max_four min_four
def pile_room.f (a0:Int):Option (Bool):=if a0≥0 then(some (decide (a0≤65536))) else(some false)
set_option maxHeartbeats 8000000 in
set_option maxRecDepth 100000 in
theorem pile_room.calls (a0:Int) (r:Bool) (w:World) (h:pile_room.f a0=some r):
  Calls Try.prog 107 #[.int .i64 a0] w fun e w'=>e= .returned (.bool r)∧Drawn0 w w':=by
 have H:(if a0≥0 then(some (decide (a0≤65536))) else(some false))=some r:=h;clear h;by_cases c2:a0≥0
 rotate_left
 ·rw[Yy c2] at H
  have c2b0:decide (0≤a0)=false:=Yw c2;clear c2;obtain rfl:=Option.some.inj H;go_enter Try.func107,Try.ntmps107;go_wp2;go_ret;exact⟨by first|rfl|(simp;done)|(simp[*];done),by repeat(first|exact Drawn0.refl _|apply Drawn0.step)⟩
 rw[Yx c2] at H;have c2b0:decide (0≤a0)=true:=Yv c2;clear c2;obtain rfl:=Option.some.inj H;go_enter Try.func107,Try.ntmps107;go_wp2;go_ret;exact⟨by first|rfl|(simp;done)|(simp[*];done),by repeat(first|exact Drawn0.refl _|apply Drawn0.step)⟩
end P
namespace H
open P
attribute [local irreducible] wpQuiet
theorem info3:(Try.prog.info? 3).map (fun i=>(i.zero,i.size,i.bytes))=some (some (.int .i64 0),1,8):=by kernel_rfl
def ringAt (X:Nat→Int) (m i:Nat):List Int:=(List.range i).map X ++ List.replicate (2 * m+4 - i) 0
theorem made_ring (X:Nat→Int) (m:Nat) (hm:m≤200): ∀ W:World,(Instr.makeSlice 31 (.int .i64 0) (.int .i64 (2 * (m:Int)+4))).run Try.prog W= .ok (.slice (some ⟨W.heap.size,0,none⟩) 0 (2 * m+4)) (W.alloc (.cells (nums .i64 (ringAt X m 0)).toArray 3)):=by
 intro W;have er:ringAt X m 0=List.replicate (2 * m+4) 0:=by simp[ringAt]
 rw[er];obtain⟨i0,hi,hzz⟩:=Option.map_eq_some_iff.1 info3;simp only[Prod.mk.injEq] at hzz;obtain⟨hz0,hz1,hz2⟩:=hzz;have hr:=run_make (P:=Try.prog) W 31 3 i0 (.int .i64 0) Try.underlying31 hi hz0 .i64 .i64 (0:Int) (2 * (m:Int)+4) (by omega) (by omega) (by rw[hz2];omega) (by omega);rw[hz1] at hr;have e1:(2 * (m:Int)+4).toNat=2 * m+4:=by omega
 rw[e1] at hr;have hl:(madeCells #[Value.int .i64 0] ((2 * m+4) * 1))=(nums .i64 (List.replicate (2 * m+4) 0)).toArray:=by
  apply Array.ext';apply List.ext_getElem
  ·simp[nums,madeCells]
  ·intro i h1 h2
   simp[nums,madeCells,Nat.mod_one]
 exact hr.trans (by rw[← hl];rfl)
theorem ringAt_len (X:Nat→Int) (m i:Nat) (h:i≤m):(ringAt X m i).length=2 * m+4:=by simp[ringAt];omega
theorem ringAt_set (X:Nat→Int) (m i:Nat) (h:i<m):(ringAt X m i).set i (X i)=ringAt X m (i+1):=by
 unfold ringAt;rw[List.set_append_right _ _ (by simp),List.range_succ,List.map_append,List.append_assoc];congr 1;simp only[List.length_map,List.length_range,Nat.sub_self,List.map_cons,List.map_nil,List.cons_append,List.nil_append];rw[show 2 * m+4 - i=(2 * m+4 - (i+1))+1 by omega,List.replicate_succ];rfl
set_option maxHeartbeats 1000000 in
set_option maxRecDepth 100000 in
theorem grow_nil (g:Nat) (w:World) (c0:w.cell? ⟨g,0,none⟩=some (.slice none 0 0)) (c2:w.cell? ⟨g,2,none⟩=some (.int .i64 0)) (f0:w.frozen? ⟨g,0,none⟩=false) (f1:w.frozen? ⟨g,1,none⟩=false) (c1:w.cell? ⟨g,1,none⟩=some (.int .i64 0)):
  Calls Try.prog 108 #[.pointer (some ⟨g,0,none⟩)] w fun e w'=>e= .returned (.tuple #[])∧w'=((w.alloc (.cells (nums .i64 (ringAt (fun _=>0) 0 0)).toArray 3)).setCell ⟨g,0,none⟩ (.slice (some ⟨w.heap.size,0,none⟩) 4 4)).setCell ⟨g,1,none⟩ (.int .i64 0):=by
 have hu:=Try.underlying149;have hg:=Yb w _ c0;have hmk:=made_ring (fun _=>0) 0 (by omega);simp only[Int.ofNat_zero,Int.mul_zero,Int.zero_add,Nat.mul_zero,Nat.zero_add,Int.natCast_zero] at hmk;go_enter Try.func108,Try.ntmps108;go_wp2_with fail;go_loopw [2,16] (fun v2 v16 w'=>v2= .slice (some ⟨w.heap.size,0,none⟩) 0 4∧v16= .int .i64 0∧Aside0 (w'=w.alloc (.cells (nums .i64 (ringAt (fun _=>0) 0 0)).toArray 3))) (fun _ _ _=>0)
 case atStart=>exact⟨rfl,rfl,⟨rfl⟩⟩
 case round=>
  obtain⟨rfl,rfl,HW⟩:=hrel;have hw:=HW.out;subst hw;go_wp2_with fail;exact bodyPost_end (results_none rfl _ _ _) rfl ⟨rfl,rfl⟩
theorem ring_put {W:World} {H:Nat} {X:Nat→Int} {m i:Nat} (h:W.heap[H]? =some (.cells (nums .i64 (ringAt X m i)).toArray 3 (0,0))) (hi:i<m):(W.setCells H (0+i * 1) [.int .i64 (X i)]).heap[H]? =some (.cells (nums .i64 (ringAt X m (i+1))).toArray 3 (0,0)):=by
 rw[show 0+i * 1=i by omega, ← ringAt_set X m i hi];refine(blk_set h i (.int .i64 (X i))).trans ?_;simp[nums,List.map_set]
theorem below_cells {w W:World} {H o:Nat} {v:Value} (h:Below w.heap.size w W) (hH:w.heap.size≤H):Below w.heap.size w (W.setCells H o [v]):=Yh h hH
theorem far_keep {wr W:World} {H o:Nat} {vs:List Value} {a:Addr} {v:Value} (hc:wr.cell? a=some v) (hB:Below wr.heap.size wr W) (hne:a.block≠H):(W.setCells H o vs).cell? a=some v:=
 (World.cell?_of_block (setCells_far vs o a.block hne)).trans (pw_cell_below hB hc)
theorem spare_ok {W wr:World} {H i:Nat} {cs:Array Value} {x:Value} (hb:wr.heap[H]? =some (.cells cs 3 (0,0))) (hW:W.heap[H]? =wr.heap[H]?) (hi:i<cs.size): ∀ j,j<[x].length→(W.cell? ⟨H,0+i * 1+j,none⟩).isSome=true∧W.frozen? ⟨H,0+i * 1+j,none⟩=false:=by
 intro j hj;have hj0:j=0:=by simpa using hj
 subst hj0;have h:=hW.trans hb;refine⟨?_,Yf h _⟩;rw[Yc h,show 0+i * 1+0=i by omega,Array.getElem?_eq_getElem hi];rfl
set_option maxHeartbeats 2000000 in
set_option maxRecDepth 100000 in
theorem grow_core (g b m fr:Nat) (X:Nat→Int) (w:World) (c0:w.cell? ⟨g,0,none⟩=some (.slice (some ⟨b,0,none⟩) m m)) (c1:w.cell? ⟨g,1,none⟩=some (.int .i64 fr)) (c2:w.cell? ⟨g,2,none⟩=some (.int .i64 m)) (hX: ∀ i,i<m→w.cell? ⟨b,(fr+i) % m,none⟩=some (.int .i64 (X i)))
  (f0:w.frozen? ⟨g,0,none⟩=false) (f1:w.frozen? ⟨g,1,none⟩=false) (hm0:0<m) (hm:m≤96) (hfr:fr<m):
  Calls Try.prog 108 #[.pointer (some ⟨g,0,none⟩)] w fun e w'=>e= .returned (.tuple #[])∧ ∃ w1,Below w.heap.size w w1∧w1.heap[w.heap.size]? =some (.cells (nums .i64 (ringAt X m m)).toArray 3 (0,0))∧w'=(w1.setCell ⟨g,0,none⟩ (.slice (some ⟨w.heap.size,0,none⟩) (2 * m+4) (2 * m+4))).setCell ⟨g,1,none⟩ (.int .i64 0):=by
 have hu:=Try.underlying149;obtain⟨i0,hi,hzz⟩:=Option.map_eq_some_iff.1 info3;simp only[Prod.mk.injEq] at hzz;have HI:=Ya hi;have HS1:=Ya hzz.2.1;clear hi hzz;have hg:=Yb w _ c0;have hb:=Yb w _ (hX 0 hm0);have C0:=Ya c0;have C1:=Ya c1;have F0:=Ya f0;have F1:=Ya f1;have HX:=Ya hX;have hmk:=made_ring X m (by omega);have q1:(m:Int)≤96:=by omega
 have q2:(0:Int)<(m:Int):=by omega
 clear hX;go_enter Try.func108,Try.ntmps108;go_wp2_with fail;clear hmk c0 c1 c2 f0 f1;go_loopw [2,16] (fun v2 v16 w'=> ∃ i:Nat,i≤m∧v16= .int .i64 i∧v2= .slice (some ⟨w.heap.size,0,none⟩) i (2 * m+4)∧Aside0 (w'.heap[w.heap.size]? =some (.cells (nums .i64 (ringAt X m i)).toArray 3 (0,0)))∧Aside0 (Below w.heap.size w w')) (fun _ v16 _=>m - (intOf v16).toNat)
 case atStart=>exact⟨0,Nat.zero_le _,rfl,rfl,⟨heap_alloc_new w _⟩,⟨Ye (Yo _ _) _⟩⟩
 case round=>
  obtain⟨i,hi,rfl,rfl,HR,HB⟩:=hrel;by_cases hlt:i<m
  ·have e1:decide ((i:Int)<(m:Int))=true:=Yv (by omega)
   have c0:=pw_cell_below HB.out C0.out;have c1:=pw_cell_below HB.out C1.out;have cx:=pw_cell_below HB.out (HX.out i hlt);have hwr:IntKind.i64.wrap ((fr:Int)+(i:Int))=(fr:Int)+(i:Int):=IntWalk.i64_in _ (by omega);have htm:Int.tmod ((fr:Int)+(i:Int)) (m:Int)=(((fr+i) % m:Nat):Int):=rfl;have hj1:=Nat.mod_lt (fr+i) hm0;generalize (fr+i) % m=j at cx htm hj1;have hj0:(0:Int)≤(j:Int):=by omega
   have hj2:(j:Int)<(m:Int):=by omega
   have hlw:=HB.out.size;have hmz: ¬ m=0:=by omega
   go_wp2_with fail;have KB:Below wr.heap.size wr (wr.alloc (.cells #[.int .i64 (X i)] 3)).drew:=below_drew (Ye (Yo _ _) _);have K0:=far_keep (H:=w.heap.size) (o:=0+i * 1) (vs:=[.int .i64 (X i)]) c0 KB (by show g≠_;omega);have K1:=far_keep (H:=w.heap.size) (o:=0+i * 1) (vs:=[.int .i64 (X i)]) c1 KB (by show g≠_;omega);have K2:=far_keep (H:=w.heap.size) (o:=0+i * 1) (vs:=[.int .i64 (X i)]) cx KB (by show b≠_;omega);have HR2:=Ya (ring_put (W:=(wr.alloc (.cells #[.int .i64 (X i)] 3)).drew) ((heap_alloc_old _ _ (blk_lt HR.out)).trans HR.out) hlt);have HB2:Aside0 (Below w.heap.size w ((wr.alloc (.cells #[.int .i64 (X i)] 3)).drew.setCells w.heap.size (0+i * 1) [.int .i64 (X i)])):=⟨below_cells (below_drew (Ye HB.out _)) (Nat.le_refl _)⟩;go_region_held3 (fun w'=>w'.cell? ⟨g,0,none⟩=some (.slice (some ⟨b,0,none⟩) m m)∧w'.cell? ⟨g,1,none⟩=some (.int .i64 fr)∧w'.cell? ⟨b,j,none⟩=some (.int .i64 (X i))) (first|exact⟨K0,K1,K2⟩|(go_split_ands;exact⟨K0,K1,K2⟩)|go_keep)
    ((refine step_append_room rfl _ _ _ (by rfl) 3 i0 1 Try.underlying31 HI.out HS1.out w.heap.size 0 i (2 * m+4) (by rfl) ⟨wr.heap.size,0,none⟩ 1 1 [.int .i64 (X i)] (by rfl) (by rfl) (World.news_of_block (cs:= #[.int .i64 (X i)]) (t:=3) (fr:=(0,0)) (heap_alloc_new _ _)) (by simp[Value.oneCell']) (by omega) (spare_ok HR.out (heap_alloc_old _ _ (blk_lt HR.out)) (by simp[nums,ringAt_len _ _ _ hi];omega)) ?_))
   clear K0 K1 K2 KB c0 c1 cx htm hwr;generalize (wr.alloc (.cells #[.int .i64 (X i)] 3)).drew.setCells w.heap.size (0+i * 1) [.int .i64 (X i)]=w9 at HR2 HB2 ⊢;go_wp2_with fail;go_roundw
   case rel=>exact⟨i+1,by omega,by go_num,rfl,HR2,HB2⟩
   case measure=>simp[intOf]<;>omega
  ·have ei:i=m:=by omega
   subst ei;have e1:decide ((i:Int)<(i:Int))=false:=Yw (by omega);have c0:=pw_cell_below HB.out C0.out;have c1:=pw_cell_below HB.out C1.out;have f0:wr.frozen? ⟨g,0,none⟩=false:=(HB.out.frozen (p:=⟨g,0,none⟩) hg).trans F0.out;have f1:wr.frozen? ⟨g,1,none⟩=false:=(HB.out.frozen (p:=⟨g,1,none⟩) hg).trans F1.out;go_wp2_with fail;refine bodyPost_end (results_none rfl _ _ _) rfl ⟨rfl,wr,HB.out,HR.out,rfl⟩
theorem ring_full (X:Nat→Int) (m i:Nat) (hi:i<m):(ringAt X m m).getD ((0+i) % (ringAt X m m).length) 0=X i:=by
 rw[ringAt_len X m m (Nat.le_refl _),Nat.zero_add,Nat.mod_eq_of_lt (by omega)];unfold ringAt;rw[List.getD_eq_getElem?_getD,List.getElem?_append_left (by simpa using hi)];simp[hi]
theorem que_grow (g:Nat) (A:Option Addr) (R:List Int) (fr mo:Nat) (w:World) (h:Qu w g A R fr R.length mo):
  Calls Try.prog 108 #[.pointer (some ⟨g,0,none⟩)] w fun e w'=>e= .returned (.tuple #[])∧ ∃ R',R'.length=2 * R.length+4∧Qu w' g (some ⟨w.heap.size,0,none⟩) R' 0 R.length mo∧qL R' 0 R.length=qL R fr R.length∧Ks (fun k=>k=g) w w':=by
 have hg:=blk_lt h.hd;have hs:=h.szm;have h50:=h.mo50;rcases h.ring with ⟨rfl,rfl⟩|⟨b,rfl,hp,hb⟩
 ·rcases h.frr with h1|⟨rfl,_⟩
  ·exact absurd h1 (by simp)
  refine(grow_nil g w ((Yc h.hd 0).trans rfl) ((Yc h.hd 2).trans rfl) (Yf h.hd 0) (Yf h.hd 1) ((Yc h.hd 1).trans rfl)).mono ?_;rintro e w' ⟨rfl,rfl⟩;have hw: ∀ o,(w.alloc o).heap[g]? =some (.cells #[.slice none 0 0, .int .i64 (0:Nat), .int .i64 (0:Nat), .int .i64 mo] 149 (0,0)):=fun o=>(heap_alloc_old _ _ hg).trans h.hd
  refine⟨rfl,ringAt (fun _=>0) 0 0,ringAt_len _ _ _ (Nat.le_refl _),⟨blk_set (blk_set (hw _) 0 _) 1 _, .inr ⟨_,rfl,by rw[ringAt_len _ _ _ (Nat.le_refl _)];omega,?_⟩,Nat.zero_le _, .inl (by rw[ringAt_len _ _ _ (Nat.le_refl _)];omega),hs,h50,by rw[ringAt_len _ _ _ (Nat.le_refl _)];omega⟩,rfl,?_⟩
  ·exact blk_far (blk_far (heap_alloc_new w _) (p:=⟨g,0,none⟩) (by show w.heap.size≠g;omega) _) (p:=⟨g,1,none⟩) (by show w.heap.size≠g;omega) _
  ·exact(((Ks.refl (fun k=>k=g) w).below (Ye (Yo _ _) _)).set (g:=g) (fun _=>rfl) 0 _).set (g:=g) (fun _=>rfl) 1 _
 ·have hfr:fr<R.length:=by
   rcases h.frr with h1|⟨_,h1⟩
   ·exact h1
   ·rw[h1] at hp;exact absurd hp (by simp)
  refine(grow_core g b R.length fr (fun i=>R.getD ((fr+i) % R.length) 0) w ((Yc h.hd 0).trans rfl) ((Yc h.hd 1).trans rfl) ((Yc h.hd 2).trans rfl) (fun i hi=>(Yc hb _).trans (nums_get R _ (Nat.mod_lt _ hp))) (Yf h.hd 0) (Yf h.hd 1) hp (by omega) hfr).mono ?_;rintro e w' ⟨rfl,w1,hbw,hr,rfl⟩;have hw:=(hbw.block g hg).trans h.hd;have hl:=ringAt_len (fun i=>R.getD ((fr+i) % R.length) 0) R.length R.length (Nat.le_refl _);refine⟨rfl,ringAt (fun i=>R.getD ((fr+i) % R.length) 0) R.length R.length,hl,⟨?_, .inr ⟨_,rfl,by omega,?_⟩,by omega, .inl (by omega),hs,h50,by omega⟩,?_,?_⟩
  ·have h2:=blk_set (blk_set hw 0 (.slice (some ⟨w.heap.size,0,none⟩) (2 * R.length+4) (2 * R.length+4))) 1 (.int .i64 0)
   rw[hl];exact h2
  ·exact blk_far (blk_far hr (p:=⟨g,0,none⟩) (by show w.heap.size≠g;omega) _) (p:=⟨g,1,none⟩) (by show w.heap.size≠g;omega) _
  ·unfold qL
   apply List.map_congr_left;intro i hi;exact ring_full _ _ _ (List.mem_range.1 hi)
  ·exact(((Ks.refl (fun k=>k=g) w).below hbw).set (g:=g) (fun _=>rfl) 0 _).set (g:=g) (fun _=>rfl) 1 _
end H
namespace H
open P
attribute [local irreducible] wpQuiet
set_option maxHeartbeats 2000000 in
set_option maxRecDepth 100000 in
theorem put_core (g b m fr sz mo j:Nat) (x:Int) (w:World) (c0:w.cell? ⟨g,0,none⟩=some (.slice (some ⟨b,0,none⟩) m m)) (c1:w.cell? ⟨g,1,none⟩=some (.int .i64 fr)) (c2:w.cell? ⟨g,2,none⟩=some (.int .i64 sz)) (c3:w.cell? ⟨g,3,none⟩=some (.int .i64 mo)) (y:Int) (cx:w.cell? ⟨b,j,none⟩=some (.int .i64 y)) (hj:(fr+sz) % m=j)
  (f2:w.frozen? ⟨g,2,none⟩=false) (fx:w.frozen? ⟨b,j,none⟩=false) (hne:g≠b) (hsm:sz<m) (hmo:sz<mo) (hm:m≤200) (hfr:fr<m) (hmo2:mo≤50):
  Calls Try.prog 101 #[.pointer (some ⟨g,0,none⟩), .int .i64 x] w fun e w'=>e= .returned (.int .i64 0)∧w'=((w.setCell ⟨b,j,none⟩ (.int .i64 x)).setCell ⟨g,2,none⟩ (.int .i64 ((sz:Int)+1))).drew.drew.drew:=by
 have hu:=Try.underlying149;have p0:(0:Int)≤(fr:Int):=by omega
 have p1:(fr:Int)<(m:Int):=by omega
 have p2:(m:Int)≤200:=by omega
 have p3:(sz:Int)<(m:Int):=by omega
 have p4:(0:Int)≤(sz:Int):=by omega
 have p5:(sz:Int)≤50:=by omega
 have p6:(0:Int)<(m:Int):=by omega
 have hj2:((fr:Int)+(sz:Int)) % (m:Int)=(j:Int):=by rw[← hj,Int.natCast_emod];rfl
 have hj1:(j:Int)<(m:Int):=by rw[← hj];have:=Nat.mod_lt (fr+sz) (show 0<m by omega);omega
 have hj0:(0:Int)≤(j:Int):=by omega
 have e1:((sz:Int) == (mo:Int))=false:=beq_eq_false_iff_ne.2 (by omega);have e2:((sz:Int) == (m:Int))=false:=beq_eq_false_iff_ne.2 (by omega);clear hj hsm hmo hfr;go_enter Try.func101,Try.ntmps101;go_wp2_with fail;go_region;go_wp2_with fail;go_region;go_wp2_with fail;go_region;go_wp2_with fail;go_ret;exact⟨rfl,rfl⟩
theorem qL_put (R:List Int) (fr sz:Nat) (x:Int) (h:sz<R.length):qL (R.set ((fr+sz) % R.length) x) fr (sz+1)=qL R fr sz ++ [x]:=by
 unfold qL;rw[List.range_succ,List.map_append,List.length_set];congr 1
 ·apply List.map_congr_left
  intro i hi;have hi:=List.mem_range.1 hi;rw[getD_set_ne];intro e;have h1:(fr+sz - (fr+i)) % R.length=0:=Nat.sub_mod_eq_zero_of_mod_eq e;rw[show fr+sz - (fr+i)=sz - i by omega,Nat.mod_eq_of_lt (by omega)] at h1;omega
 ·rw[List.map_cons,List.map_nil,getD_set_eq _ _ _ _ (Nat.mod_lt _ (by omega))]
theorem qu_put {w:World} {g b:Nat} {R:List Int} {fr sz mo:Nat} (h:Qu w g (some ⟨b,0,none⟩) R fr sz mo) (hs:sz<R.length) (hm:sz<mo) (x:Int):
  Qu ((w.setCell ⟨b,(fr+sz) % R.length,none⟩ (.int .i64 x)).setCell ⟨g,2,none⟩ (.int .i64 ((sz:Int)+1))) g (some ⟨b,0,none⟩) (R.set ((fr+sz) % R.length) x) fr (sz+1) mo:=by
 have hne:=h.ne;have hring:w.heap[b]? =some (.cells (nums .i64 R).toArray 3 (0,0)):=by
  rcases h.ring with ⟨h1,_⟩|⟨c,h1,h2,h3⟩
  ·cases h1
  ·cases h1;exact h3
 refine⟨?_, .inr ⟨b,rfl,by rw[List.length_set];omega,?_⟩,by rw[List.length_set];omega,?_,hm,h.mo50,by rw[List.length_set];exact h.len⟩
 ·rw[List.length_set]
  exact blk_set (blk_far h.hd (p:=⟨b,(fr+sz) % R.length,none⟩) hne _) 2 _
 ·have h1:=blk_far (blk_set hring ((fr+sz) % R.length) (.int .i64 x)) (p:=⟨g,2,none⟩) (Ne.symm hne) (.int .i64 ((sz:Int)+1))
  refine h1.trans ?_;simp[nums,List.map_set]
 ·rcases h.frr with h1|⟨_,h1⟩
  ·exact .inl (by rw[List.length_set];exact h1)
  ·rw[h1] at hs;exact absurd hs (by simp)
theorem que_put_room (g b:Nat) (R:List Int) (fr sz mo:Nat) (x:Int) (w:World) (h:Qu w g (some ⟨b,0,none⟩) R fr sz mo) (hs:sz<R.length) (hm:sz<mo):
  Calls Try.prog 101 #[.pointer (some ⟨g,0,none⟩), .int .i64 x] w fun e w'=>e= .returned (.int .i64 0)∧ ∃ R',Qu w' g (some ⟨b,0,none⟩) R' fr (sz+1) mo∧qL R' fr (sz+1)=qL R fr sz ++ [x]∧Ks (fun k=>k=g∨k=b) w w':=by
 have hring:w.heap[b]? =some (.cells (nums .i64 R).toArray 3 (0,0)):=by
  rcases h.ring with ⟨h1,_⟩|⟨c,h1,h2,h3⟩
  ·cases h1
  ·cases h1;exact h3
 have hfr:fr<R.length:=by
  rcases h.frr with h1|⟨_,h1⟩
  ·exact h1
  ·rw[h1] at hs;exact absurd hs (by simp)
 have hj:=Nat.mod_lt (fr+sz) (show 0<R.length by omega);have h50:=h.mo50;have hl:=h.len;refine(put_core g b R.length fr sz mo ((fr+sz) % R.length) x w ((Yc h.hd 0).trans rfl) ((Yc h.hd 1).trans rfl) ((Yc h.hd 2).trans rfl) ((Yc h.hd 3).trans rfl) _ ((Yc hring _).trans (nums_get R _ hj)) rfl (Yf h.hd 2) (Yf hring _) h.ne hs hm (by omega) hfr h50).mono ?_;rintro e w' ⟨rfl,rfl⟩;exact⟨rfl,_,(qu_put h hs hm x).below (below_drew (below_drew (below_drew (Yo _ _)))),qL_put R fr sz x hs,(((Ks.refl (fun k=>k=g∨k=b) w).set (g:=b) (fun _=> .inr rfl) _ _).set (g:=g) (fun _=> .inl rfl) _ _).below (below_drew (below_drew (below_drew (Yo _ _))))⟩
theorem que_grow_ (g:Nat) (A:Option Addr) (R:List Int) (fr m mo:Nat) (w:World) (hm:R.length=m) (h:Qu w g A R fr m mo):
  Calls Try.prog 108 #[.pointer (some ⟨g,0,none⟩)] w fun e w'=>e= .returned (.tuple #[])∧ ∃ R',R'.length=2 * m+4∧Qu w' g (some ⟨w.heap.size,0,none⟩) R' 0 m mo∧qL R' 0 m=qL R fr m∧Ks (fun k=>k=g) w w':=by
 subst hm;exact que_grow g A R fr mo w h
set_option maxHeartbeats 2000000 in
set_option maxRecDepth 100000 in
theorem que_put_grow (g:Nat) (A:Option Addr) (R:List Int) (fr mo:Nat) (x:Int) (w:World) (h:Qu w g A R fr R.length mo) (hm:R.length<mo):
  Calls Try.prog 101 #[.pointer (some ⟨g,0,none⟩), .int .i64 x] w fun e w'=>e= .returned (.int .i64 0)∧ ∃ b R',w.heap.size≤b∧Qu w' g (some ⟨b,0,none⟩) R' 0 (R.length+1) mo∧qL R' 0 (R.length+1)=qL R fr R.length ++ [x]∧Ks (fun k=>k=g) w w':=by
 have hu:=Try.underlying149;have H:=Ya h;have h50:=h.mo50;have c0:w.cell? ⟨g,0,none⟩=some (.slice A R.length R.length):=(Yc h.hd 0).trans rfl;have c2:w.cell? ⟨g,2,none⟩=some (.int .i64 R.length):=(Yc h.hd 2).trans rfl;have c3:w.cell? ⟨g,3,none⟩=some (.int .i64 mo):=(Yc h.hd 3).trans rfl;generalize hml:R.length=m at *;have HML:=Ya hml;clear hml h;have p4:(0:Int)≤(m:Int):=by omega
 have p5:(m:Int)≤50:=by omega
 have e1:((m:Int) == (mo:Int))=false:=beq_eq_false_iff_ne.2 (by omega);go_enter Try.func101,Try.ntmps101;go_wp2_with fail;go_region;go_wp2_with fail;go_region;go_wp2_with fail;clear c0 c2 c3;go_wp2_with (first|(go_at_call 108;refine(que_grow_ g A R fr m mo _ HML.out (H.out.below (below_drew (below_drew (Yo _ _))))).mono ?_;rintro e_ w3 ⟨rfl,R',hl',hq,hql,hk⟩;obtain⟨b,hbe⟩: ∃ b_,b_=w.heap.size:=⟨_,rfl⟩;(have hq:Qu w3 g (some ⟨b,0,none⟩) R' 0 m mo:=by(rw[hbe];exact hq));have HBE:=Ya hbe;clear hbe;have HQ:=Ya hq;have HQL:=Ya hql;have HK:=Ya hk;clear hq hql hk;obtain⟨M,hM⟩: ∃ M_,M_=R'.length:=⟨_,rfl⟩;have c0:w3.cell? ⟨g,0,none⟩=some (.slice (some ⟨b,0,none⟩) M M):=by(rw[hM];exact(Yc HQ.out.hd 0).trans rfl))|fail);have hm1:m<M:=by omega
 have hm2:M≤104:=by omega
 have hring:w3.heap[b]? =some (.cells (nums .i64 R').toArray 3 (0,0)):=by
  rcases HQ.out.ring with ⟨h1,_⟩|⟨c,h1,h2,h3⟩
  ·cases h1
  ·cases h1;exact h3
 have hne:=HQ.out.ne;have c1:w3.cell? ⟨g,1,none⟩=some (.int .i64 0):=(Yc HQ.out.hd 1).trans rfl;have c2:w3.cell? ⟨g,2,none⟩=some (.int .i64 m):=(Yc HQ.out.hd 2).trans rfl;have cx:w3.cell? ⟨b,m,none⟩=some (.int .i64 (R'.getD m 0)):=(Yc hring _).trans (nums_get R' _ (by omega));have fx:w3.frozen? ⟨b,m,none⟩=false:=Yf hring _;have f2:=Yf HQ.out.hd 2;generalize R'.getD m 0=yy at cx;have HM:=Ya hM;have HL:=Ya hl';clear hM hl' hring;have q0:(0:Int)<(M:Int):=by omega
 have q1:(m:Int)<(M:Int):=by omega
 have q2:(M:Int)≤104:=by omega
 have hj2:(m:Int) % (M:Int)=(m:Int):=Int.emod_eq_of_lt p4 q1;go_wp2_with fail;go_region;go_wp2_with fail;go_ret;have hmod:(0+m) % R'.length=m:=by rw[← HM.out,Nat.zero_add,Nat.mod_eq_of_lt hm1]
 have h1:=qu_put HQ.out (by rw[← HM.out];exact hm1) hm x;have h2:=qL_put R' 0 m x (by rw[← HM.out];exact hm1);rw[hmod] at h1 h2;refine⟨rfl,b,R'.set m x,by rw[HBE.out];exact Nat.le_refl _,?_,?_,?_⟩
 ·exact h1.below (below_drew (Yo _ _))
 ·exact h2.trans (by rw[HQL.out])
 ·have hk:Ks (fun k=>k=g) w w3:=HK.out.trans' (below_drew (below_drew (Yo _ _)))
  exact(((hk.set (g:=b) (fun hlt=>absurd hlt (by rw[HBE.out];exact Nat.lt_irrefl _)) _ _).set (g:=g) (fun _=>rfl) _ _)).below (below_drew (Yo _ _))
theorem que_new (mo:Nat) (w:World) (h50:mo≤50):
  Calls Try.prog 100 #[.int .i64 (mo:Int)] w fun e w'=> ∃ g,e= .returned (.tuple #[.pointer (some ⟨g,0,none⟩), .int .i64 0])∧w.heap.size≤g∧Qu w' g none [] 0 0 mo∧Below w.heap.size w w':=by
 have hrm:pile_room.f (mo:Int)=some true:=by
  unfold pile_room.f;rw[Yx (by omega)];simp;omega
 have HRM:=Ya hrm;clear hrm;have hu:=Try.underlying149;go_enter Try.func100,Try.ntmps100;go_wp2_with (first|(go_at_call 107;refine(pile_room.calls (mo:Int) true _ HRM.out).mono ?_;rintro e_ w1 ⟨rfl,hd⟩;have HD:=Ya hd.below;clear hd)|fail);go_ret2;have hw:=heap_alloc_new w1 (.cells #[.slice none 0 0, .int .i64 0, .int .i64 0, .int .i64 mo] 149);exact⟨w1.heap.size,rfl,HD.out.size,⟨hw, .inl ⟨rfl,rfl⟩,Nat.le_refl _, .inr ⟨rfl,rfl⟩,Nat.zero_le _,h50,Nat.zero_le _⟩,Ye HD.out _⟩
theorem que_put (g:Nat) (A:Option Addr) (R:List Int) (fr sz mo:Nat) (x:Int) (w:World) (h:Qu w g A R fr sz mo) (hm:sz<mo):
  Calls Try.prog 101 #[.pointer (some ⟨g,0,none⟩), .int .i64 x] w fun e w'=>e= .returned (.int .i64 0)∧ ∃ (A':Option Addr) (R':List Int) (fr':Nat),Qu w' g A' R' fr' (sz+1) mo∧qL R' fr' (sz+1)=qL R fr sz ++ [x]∧Ks (quS g A) w w'∧ ∀ k,quS g A' k→quS g A k∨w.heap.size≤k:=by
 by_cases hs:sz<R.length
 ·rcases h.ring with ⟨_,h1⟩|⟨b,rfl,_,_⟩
  ·rw[h1] at hs;exact absurd hs (by simp)
  ·refine(que_put_room g b R fr sz mo x w h hs hm).mono ?_
   rintro e w' ⟨rfl,R',h1,h2,h3⟩;exact⟨rfl,_,R',fr,h1,h2,h3.mono (fun k hk _=>hk.elim .inl (fun h=> .inr ⟨_,rfl,h⟩)),fun k hk=> .inl hk⟩
 ·have e:sz=R.length:=by have:=h.szr;omega
  subst e;refine(que_put_grow g A R fr mo x w h hm).mono ?_;rintro e w' ⟨rfl,b,R',h1,h2,h3,h4⟩;refine⟨rfl,_,R',0,h2,h3,h4.mono (fun k hk _=> .inl hk),fun k hk=> ?_⟩;rcases hk with rfl|⟨a,ha,rfl⟩
  ·exact .inl (.inl rfl)
  ·cases ha;exact .inr h1
end H
namespace P
attribute [local go_sem] max2_int min2_int max_two min_two max_three min_three max_four min_four
def bits_Mul64.f (a0:Int) (a1:Int):Option (Int × Int):=some (IntKind.u64.wrap ((IntKind.u64.wrap ((IntKind.u64.wrap ((a0 / 4294967296) * (a1 / 4294967296)))+((IntKind.u64.wrap ((IntKind.u64.wrap ((a0 / 4294967296) * (Go.bits .and .u64 a1 4294967295)))+((IntKind.u64.wrap ((Go.bits .and .u64 a0 4294967295) * (Go.bits .and .u64 a1 4294967295))) / 4294967296))) / 4294967296)))+((IntKind.u64.wrap ((Go.bits .and .u64 (IntKind.u64.wrap ((IntKind.u64.wrap ((a0 / 4294967296) * (Go.bits .and .u64 a1 4294967295)))+((IntKind.u64.wrap ((Go.bits .and .u64 a0 4294967295) * (Go.bits .and .u64 a1 4294967295))) / 4294967296))) 4294967295)+(IntKind.u64.wrap ((Go.bits .and .u64 a0 4294967295) * (a1 / 4294967296))))) / 4294967296)),IntKind.u64.wrap (a0 * a1))
set_option maxHeartbeats 8000000 in
set_option maxRecDepth 100000 in
theorem bits_Mul64.calls (a0:Int) (a1:Int) (r1:Int) (r2:Int) (w:World) (h:bits_Mul64.f a0 a1=some (r1,r2)):
  Calls Try.prog 111 #[.int .u64 a0, .int .u64 a1] w fun e w'=>e= .returned (.tuple #[.int .u64 r1, .int .u64 r2])∧Drawn0 w w':=by
 have H:(some (IntKind.u64.wrap ((IntKind.u64.wrap ((IntKind.u64.wrap ((a0 / 4294967296) * (a1 / 4294967296)))+((IntKind.u64.wrap ((IntKind.u64.wrap ((a0 / 4294967296) * (Go.bits .and .u64 a1 4294967295)))+((IntKind.u64.wrap ((Go.bits .and .u64 a0 4294967295) * (Go.bits .and .u64 a1 4294967295))) / 4294967296))) / 4294967296)))+((IntKind.u64.wrap ((Go.bits .and .u64 (IntKind.u64.wrap ((IntKind.u64.wrap ((a0 / 4294967296) * (Go.bits .and .u64 a1 4294967295)))+((IntKind.u64.wrap ((Go.bits .and .u64 a0 4294967295) * (Go.bits .and .u64 a1 4294967295))) / 4294967296))) 4294967295)+(IntKind.u64.wrap ((Go.bits .and .u64 a0 4294967295) * (a1 / 4294967296))))) / 4294967296)),IntKind.u64.wrap (a0 * a1)))=some (r1,r2):=h;clear h;simp only[Option.some.injEq,Prod.mk.injEq] at H;obtain⟨rfl,rfl⟩:=H;go_enter Try.func111,Try.ntmps111;go_wp2;go_ret2;exact⟨by first|rfl|(simp;done)|(simp[*];done),by repeat(first|exact Drawn0.refl _|apply Drawn0.step)⟩
end P
namespace P
attribute [local go_sem] max2_int min2_int max_two min_two max_three min_three max_four min_four
def bits_Mul.f (a0:Int) (a1:Int):Option (Int × Int):=(bits_Mul64.f a0 a1).bind fun bt463=>(some (bt463.1,bt463.2))
set_option maxHeartbeats 8000000 in
set_option maxRecDepth 100000 in
theorem bits_Mul.calls (a0:Int) (a1:Int) (r1:Int) (r2:Int) (w:World) (h:bits_Mul.f a0 a1=some (r1,r2)):
  Calls Try.prog 106 #[.int .u64 a0, .int .u64 a1] w fun e w'=>e= .returned (.tuple #[.int .u64 r1, .int .u64 r2])∧Drawn0 w w':=by
 have H:((bits_Mul64.f a0 a1).bind fun bt463=>(some (bt463.1,bt463.2)))=some (r1,r2):=h;clear h;replace H:=Option.bind_eq_some_iff.mp H;obtain⟨⟨t463,t464⟩,A30,H⟩:=H;replace H:(some (t463,t464))=some (r1,r2):=H;have A3:=Ya A30;clear A30;simp only[Option.some.injEq,Prod.mk.injEq] at H;obtain⟨rfl,rfl⟩:=H;go_enter Try.func106,Try.ntmps106;go_wp2_with (first|((with_reducible refine gate_callee (f:=111) rfl ?_);refine goesL_ (some 25) rfl rfl Try.func111 (by kernel_rfl) rfl #[.int .u64 a0, .int .u64 a1] rfl (by(try simp only[List.map_toArray,List.map_cons,List.map_nil]);first|done|rfl|(simp only[List.length_drop,List.length_take];rfl)) ?_;(with_reducible refine(bits_Mul64.calls a0 a1 t463 t464 _ A3.out).mono ?_);rintro e w' ⟨rfl,⟨nd,rfl⟩⟩;refine⟨_,rfl,?_⟩));go_ret2;exact⟨by first|rfl|(simp;done)|(simp[*];done),by repeat(first|exact Drawn0.refl _|apply Drawn0.step)⟩
end P
namespace H
open P
attribute [local irreducible] wpQuiet
theorem mul_small: ∀ n:Nat,n<51→bits_Mul.f 1 (n:Int)=some (0,(n:Int)):=by decide +kernel
theorem info3s:(Try.prog.info? 3).map (·.size)=some 1:=by kernel_rfl
def repAt (x:Int) (n k:Nat):List Value:=nums .i64 (List.replicate k x ++ List.replicate (n - k) 0)
theorem repAt_len (x:Int) (n k:Nat) (h:k≤n):(repAt x n k).length=n:=by simp[repAt,nums];omega
theorem made_rep (x:Int) (n:Nat) (hn:n≤50): ∀ W:World,(Instr.makeSlice 31 (.int .i64 (n:Int)) (.int .i64 (n:Int))).run Try.prog W= .ok (.slice (some ⟨W.heap.size,0,none⟩) n n) (W.alloc (.cells (repAt x n 0).toArray 3)):=by
 intro W;rw[print_make 31 3 .i64 8 Try.underlying31 (by kernel_rfl) (by omega) n (by omega) W];have hl:(madeCells #[Value.int .i64 0] n)=(repAt x n 0).toArray:=by
  apply Array.ext';apply List.ext_getElem
  ·simp[repAt,nums,madeCells]
  ·intro i h1 h2
   simp[repAt,nums,madeCells,Nat.mod_one]
 rw[hl]
theorem repAt_splice (x:Int) (n k m:Nat) (hk:k+m≤n):splice (repAt x n k) k (nums .i64 (List.replicate m x))=repAt x n (k+m):=by
 unfold repAt nums;simp only[List.map_append,List.map_replicate];unfold splice;rw[List.take_append_of_le_length (by simp),List.take_of_length_le (by simp),List.drop_append,List.drop_eq_nil_of_le (by simp),List.nil_append, ← List.append_assoc,List.replicate_append_replicate];simp;omega
theorem nums_one (L:List Int): ∀ v,v∈nums .i64 L→v.oneCell'=true:=by
 intro v hv;obtain⟨_,_,rfl⟩:=List.mem_map.1 hv;rfl
theorem one_cell {W:World} {b:Nat} {u:Value} (hc:W.cell? ⟨b,0,none⟩=some u): ∀ (j:Nat) (v:Value),[u][j]? =some v→W.cell? ((⟨b,0,none⟩:Addr).add j)=some v:=by
 intro j v hv;cases j with
 |zero=>rw[add_plain];injection hv with hv;rw[← hv];exact hc
 |succ j=>cases hv
set_option maxHeartbeats 2000000 in
set_option maxRecDepth 100000 in
theorem repeat_core (b c n:Nat) (x:Int) (w:World) (hb:w.cell? ⟨b,0,none⟩=some (.int .i64 x)) (hn0:0<n) (hn:n≤50):
  Calls Try.prog 99 #[.slice (some ⟨b,0,none⟩) 1 1, .int .i64 (n:Int)] w fun e w'=>e= .returned (.slice (some ⟨w.heap.size,0,none⟩) n n)∧w'.heap[w.heap.size]? =some (.cells (nums .i64 (List.replicate n x)).toArray 3 (0,0))∧Below w.heap.size w w':=by
 have hmul:=mul_small n (by omega);have HM:=Ya hmul;clear hmul;have hmk:=made_rep x n hn;have hbl:=Yb w _ hb;have HBC:=Ya hb;have q1:(n:Int)≤50:=by omega
 have q2:(0:Int)<(n:Int):=by omega
 have e1:decide ((n:Int)<0)=false:=Yw (by omega);go_enter Try.func99,Try.ntmps99;go_wp2_with (first|(go_at_call 106;refine(bits_Mul.calls 1 (n:Int) 0 (n:Int) _ HM.out).mono ?_;rintro e_ w1 ⟨rfl,hd⟩;obtain⟨nq,hnq⟩:=hd.out;subst hnq)|((with_reducible refine wpList_copy_splice rfl (.tmp 31) (.tmp 32) 31 31 rfl 3 Try.underlying31 info3s (some ⟨w.heap.size,0,none⟩) (some ⟨b,0,none⟩) n n 1 1 rfl rfl w.heap.size 0 (repAt x n 0) 3 (heap_alloc_new _ _) [.int .i64 x] ?cn (fun _=>⟨rfl,⟨b,0,none⟩,rfl,?cc⟩) ?cf ?c1 w.heap.size w ?cb (Nat.le_refl _) ?_);(case cn=>(show 1=min 1 n;omega));(case cc=>exact one_cell (pw_cell_below (Ye (Yd (Yo _ _) nq) _) HBC.out));(case cf=>(rw[repAt_len x n 0 (Nat.zero_le _)];show 0+1≤n;omega));(case c1=>simp[Value.oneCell']);(case cb=>exact Ye (Yd (Yo _ _) nq) _);intro w2 hr hbw;have HR:=Ya (hr.trans (by rw[show ([.int .i64 x]:List Value)=nums .i64 (List.replicate 1 x) from rfl,repAt_splice x n 0 1 (by omega)]));have HB:=Ya hbw;clear hr hbw)|fail);clear hmk;go_loopw [8] (fun v8 w'=> ∃ k:Nat,0<k∧k≤n∧v8= .int .i64 k∧Aside0 (w'.heap[w.heap.size]? =some (.cells (repAt x n k).toArray 3 (0,0)))∧Aside0 (Below w.heap.size w w')) (fun v8 _=>n - (intOf v8).toNat)
 case atStart=>exact⟨1,by omega,by omega,rfl,HR,HB⟩
 case round=>
  clear HR HB;obtain⟨k,hk0,hk,rfl,HR,HB⟩:=hrel;by_cases hlt:k<n
  ·have e2:decide ((k:Int)<(n:Int))=true:=Yv (by omega)
   have r0:(0:Int)≤(k:Int):=by omega
   have r1:(k:Int)≤(n:Int):=by omega
   have r2:(k:Int)<(n:Int):=by omega
   have r3: ¬ n=k:=by omega
   obtain⟨m,hm⟩: ∃ m_,m_=min k (n - k):=⟨_,rfl⟩;have hm1:k+m≤n:=by omega
   have hm2:0<m:=by omega
   have hm3:m≤k:=by omega
   have hsrc: ∀ (W:World),W.heap=wr.heap→ ∀ (j:Nat) (v:Value),(nums .i64 (List.replicate m x))[j]? =some v→W.cell? ((⟨w.heap.size,0,none⟩:Addr).add j)=some v:=by
    intro W hW j v hv;rw[add_plain,World.cell?_of_block (w:=wr) (by rw[hW]),Yc HR.out j];have hj:j<m:=by have:=(List.getElem?_eq_some_iff.1 hv).1;simpa [nums] using this
    rw[← hv];simp only[repAt,nums,List.map_append,List.map_replicate,List.getElem?_toArray];rw[List.getElem?_append_left (by simp;omega),List.getElem?_replicate,List.getElem?_replicate,Yx (by omega),Yx hj]
   have HS:=Ya hsrc;have HM2:Aside0 ((nums .i64 (List.replicate m x)).length=Nat.min k (n - k)):=⟨by rw[nums_length,List.length_replicate];exact hm⟩;have HFT:Aside0 (k+(nums .i64 (List.replicate m x)).length≤(repAt x n k).length):=⟨by rw[repAt_len x n k hk,nums_length,List.length_replicate];exact hm1⟩;clear hsrc hm;have hwr:IntKind.i64.wrap ((k:Int)+(m:Int))=(k:Int)+(m:Int):=IntWalk.i64_in _ (by omega);go_wp2_with fail;go_region_held3 (fun w'=>True) (trivial)
    ((refine step_copy_splice rfl _ _ 31 31 (by rfl) 3 Try.underlying31 info3s (some ⟨w.heap.size,k,none⟩) (some ⟨w.heap.size,0,none⟩) (n - k) (n - k) k n (by rfl) (by rfl) w.heap.size k (repAt x n k) 3 HR.out _ HM2.out (fun _=>⟨rfl,⟨w.heap.size,0,none⟩,rfl,HS.out _ (by rfl)⟩) HFT.out (nums_one _) w.heap.size w (below_drew HB.out) (Nat.le_refl _) ?_;intro w9 hr9 hb9))
   have HR9:Aside0 (w9.heap[w.heap.size]? =some (.cells (repAt x n (k+m)).toArray 3 (0,0))):=⟨by rw[← repAt_splice x n k m hm1];exact hr9⟩;have HB9:=Ya hb9;rw[nums_length,List.length_replicate,hwr];clear hr9 hb9 hwr HM2 HFT HS;go_wp2_with fail;go_roundw
   case rel=>exact⟨k+m,by omega,hm1,by go_num,HR9,HB9⟩
   case measure=>simp[intOf];omega
  ·have ek:k=n:=by omega
   subst ek;have e2:decide ((k:Int)<(k:Int))=false:=Yw (by omega);go_wp2_with fail;go_ret;exact⟨rfl,HR.out.trans (by simp[repAt]),HB.out⟩
end H
namespace H
theorem exists_least {P:Nat→Prop} : ∀ m,P m→ ∃ n,P n∧ ∀ k,P k→n≤k:=by
 intro m
 induction m using Nat.strongRecOn with
 |_ m ih=>
  intro hm;by_cases h: ∃ k,k<m∧P k
  ·obtain⟨k,hk,hp⟩:=h
   exact ih k hk hp
  ·exact⟨m,hm,fun k hk=>Nat.le_of_not_lt fun hl=>h ⟨k,hl,hk⟩⟩
open Classical in
noncomputable def least (P:Nat→Prop):Nat:=if h: ∃ n,P n∧ ∀ k,P k→n≤k then Classical.choose h else 0
theorem least_both {P:Nat→Prop} (h: ∃ m,P m):P (least P)∧ ∀ k,P k→least P≤k:=by
 obtain⟨m,hm⟩:=h;unfold least;rw[dif_pos (exists_least m hm)];exact Classical.choose_spec (exists_least m hm)
theorem least_spec {P:Nat→Prop} (h: ∃ m,P m):P (least P):=(least_both h).1
theorem least_le {P:Nat→Prop} {m:Nat} (h:P m):least P≤m:=(least_both ⟨m,h⟩).2 m h
theorem least_lt {P Q:Nat→Prop} {m:Nat} (h:Q m) (hm:m<least P):least Q<least P:=Nat.lt_of_le_of_lt (least_le h) hm
end H
namespace H
open P
attribute [local irreducible] wpQuiet
def stz (n:Nat):List Value:=stC (List.replicate n z79)
theorem made_steps (n:Nat) (hn:n≤50): ∀ W:World,(Instr.makeSlice 67 (.int .i64 (n:Int)) (.int .i64 (n:Int))).run Try.prog W= .ok (.slice (some ⟨W.heap.size,0,none⟩) n n) (W.alloc (.cells (stz n).toArray 79)):=by
 intro W;obtain⟨i0,hi,hzz⟩:=Option.map_eq_some_iff.1 info79;simp only[Prod.mk.injEq] at hzz;obtain⟨hz0,hz1,hz2⟩:=hzz;have hr:=run_make (P:=Try.prog) W 67 79 i0 _ Try.underlying67 hi hz0 .i64 .i64 (n:Int) (n:Int) (by omega) (by omega) (by rw[hz2];omega) (by omega);rw[hz1] at hr;simp only[Int.toNat_natCast] at hr;have hl:(madeCells (Value.agg #[.int .i64 0, .bool false]).cells (n * 2))=(stz n).toArray:=by
  apply Array.ext';apply List.ext_getElem?;intro i;unfold stz;by_cases h:i<n * 2
  ·have h2:=stC_get z79 (List.replicate n z79) (i / 2) (by simp;omega)
   have hg:(List.replicate n z79).getD (i / 2) z79=z79:=by
    rw[List.getD_eq_getElem?_getD,List.getElem?_replicate,Yx (by omega)];rfl
   rw[hg] at h2;rcases Nat.mod_two_eq_zero_or_one i with hm|hm
   ·rw[show i / 2 * 2=i by omega] at h2
    show _=(stC _)[i]?;rw[h2.1];simp[madeCells,Value.cells,h,hm,z79]
   ·rw[show i / 2 * 2+1=i by omega] at h2
    show _=(stC _)[i]?;rw[h2.2];simp[madeCells,Value.cells,h,hm,z79]
  ·rw[List.getElem?_eq_none (by simp[size_madeCells];omega),List.getElem?_eq_none (by simp[stC_len];omega)]
 rw[← hl];exact hr
structure Sm (n0:Nat) (Zc:Bool) (A2:Option Addr) (c2:Nat) (l:List S50) (A3:Option Addr) (c3:Nat) (F:List Int) (A4:Option Addr) (c4:Nat) (g3 gd gb gq:Nat) (w:World) (st:List (Fd S79)) (i:Nat) (w':World):Prop where
 D:IsI w' gd (dOf n0 st)
 B:IsS w' gb (bOf z79 n0 st)
 b3:w'.heap[g3]? =some (.cells #[.int .i64 n0, .bool Zc, .slice A2 l.length c2, .slice A3 F.length c3, .slice A4 n0 c4] 107 (0,0))
 que: ∃ (A:Option Addr) (R:List Int) (fr:Nat),Qu w' gq A R fr (st.length - i) n0∧qL R fr (st.length - i)=qOf st i∧ ∀ k,quS gq A k→w.heap.size≤k∧k≠gd∧k≠gb∧k≠g3
 below:Below w.heap.size w w'
theorem Sm.step {n0:Nat} {Zc:Bool} {A2:Option Addr} {c2:Nat} {l:List S50} {A3:Option Addr} {c3:Nat} {F:List Int} {A4:Option Addr} {c4:Nat} {g3 gd gb gq:Nat} {w:World} {st:List (Fd S79)} {i:Nat} {w1 w2:World}
  (h:Sm n0 Zc A2 c2 l A3 c3 F A4 c4 g3 gd gb gq w st i w1) (hb:Below w1.heap.size w1 w2):Sm n0 Zc A2 c2 l A3 c3 F A4 c4 g3 gd gb gq w st i w2:=by
 obtain⟨A,R,fr,h1,h2,h3⟩:=h.que;exact⟨h.D.below hb,h.B.below hb,Yn h.b3 hb,⟨A,R,fr,h1.below hb,h2,h3⟩,Yk h.below hb⟩
def seekW (w:World) (gd gb u:Nat) (a:Int) (e:S79):World:=(((w.setCell ⟨gd,u,none⟩ (.int .i64 a)).setCell ⟨gb,u * 2,none⟩ (.int .i64 e.f0)).setCell ⟨gb,u * 2+1,none⟩ (.bool e.f1)).drew
theorem seek_far (w:World) {gd gb g:Nat} (u:Nat) (a:Int) (e:S79) (h1:g≠gd) (h2:g≠gb):(seekW w gd gb u a e).heap[g]? =w.heap[g]? :=
 (Below.heap_setCell _ ⟨gb,u * 2+1,none⟩ _ g h2).trans ((Below.heap_setCell _ ⟨gb,u * 2,none⟩ _ g h2).trans (Below.heap_setCell _ ⟨gd,u,none⟩ _ g h1))
theorem seek_D {w:World} {gd gb:Nat} {D:List Int} (h:IsI w gd D) (hne:gd≠gb) (u:Nat) (a:Int) (e:S79):IsI (seekW w gd gb u a e) gd (D.set u a):=
 IsI.below ((((h.put u a).far (p:=⟨gb,u * 2,none⟩) hne _)).far (p:=⟨gb,u * 2+1,none⟩) hne _) (below_drew (Yo _ _))
theorem seek_B {w:World} {gd gb:Nat} {B:List S79} (h:IsS w gb B) (hne:gd≠gb) (u:Nat) (a:Int) (e:S79):IsS (seekW w gd gb u a e) gb (B.set u e):=
 IsS.below ((h.far (p:=⟨gd,u,none⟩) (Ne.symm hne) _).put u e) (below_drew (Yo _ _))
def SR (n0:Nat) (Zc:Bool) (A2:Option Addr) (c2:Nat) (l:List S50) (A3:Option Addr) (c3:Nat) (F:List Int) (A4:Option Addr) (c4:Nat) (g3 gd gb gq s:Nat) (t:Int) (w w':World) (m:Nat):Prop:=
 ∃ (st:List (Fd S79)) (i:Nat),m=n0 - i∧Lp l F n0 s t st i∧Sm n0 Zc A2 c2 l A3 c3 F A4 c4 g3 gd gb gq w st i w'
set_option maxHeartbeats 2000000 in
set_option maxRecDepth 100000 in
theorem seek_calls (n0:Nat) (Zc:Bool) (A2:Option Addr) (c2:Nat) (l:List S50) (A3:Option Addr) (c3:Nat) (F:List Int) (A4:Option Addr) (c4:Nat) (s:Nat) (t:Int) (w:World)
  (hR:Right l F n0) (hs:s<n0) (hts:t≠s) (hc2:l.length≤c2) (hc3:F.length≤c3) (h2:Kd.C k50 w A2 l.length l) (h3:Kd.C (Kd.int .i64) w A3 F.length F) (h4:(Kd.slice 79 k79).C w A4 n0 (rowsAt l n0 n0)):
  Calls Try.prog 91 #[.agg #[.int .i64 n0, .bool Zc, .slice A2 l.length c2, .slice A3 F.length c3, .slice A4 n0 c4], .int .i64 (s:Int), .int .i64 t] w fun e w'=> ∃ (gd gb:Nat) (st:List (Fd S79)),e= .returned (.tuple #[.slice (some ⟨gd,0,none⟩) n0 n0, .slice (some ⟨gb,0,none⟩) n0 n0])∧w.heap.size≤gd∧w.heap.size≤gb∧gd≠gb∧IsI w' gd (dOf n0 st)∧IsS w' gb (bOf z79 n0 st)∧Below w.heap.size w w'∧Seen l F n0 s t st:=by
 have hu24:=Try.underlying24;have hu115:=Try.underlying104;have hu118:=Try.underlying107;have HR:=Ya hR;have HC2:=Ya hc2;have HC3:=Ya hc3;have H2:=Ya h2;have H3:=Ya h3;have H4:=Ya h4;have HTS:=Ya hts;have hn50:n0≤50:=hR.fifty;have hn0:0<n0:=hR.pos;obtain⟨ad4,eA4⟩: ∃ ad,A4=some ad:=by
  obtain⟨ad,c,h_,_⟩:=Kd.C_get H4.out [] (0:Int) (by omega) (by omega);exact⟨ad,h_⟩
 subst eA4;have hmk:=made_steps n0 hn50;have HB:=Ya (Yo w.heap.size w);clear hR h2 h3 h4 hc2 hc3 hts;go_enter Try.func91,Try.ntmps91;go_upto_region 1 with (first|((with_reducible refine gate_dst (N:=3) rfl ?_);refine Yz ?hg (N:=3) ?hd (cs:= #[.int .i64 n0, .bool Zc, .slice A2 l.length c2, .slice A3 F.length c3, .slice (some ad4) n0 c4]) (t:=107) ?hr ?_;(case hd=>rfl);(case hg=>rfl);(case hr=>first|(go_simp;done)|(go_simp;rfl));intro g3 hg w5 Zg hb;have n0_:=Ya (Yk HB.out hb);have B3:=Ya Zg;clear HB;have HB:=n0_;have GE3:Aside0 (w.heap.size≤g3):=⟨Nat.le_of_eq hg.symm⟩;clear n0_ hb Zg hg)|fail)
 have hc0:w5.cell? ⟨g3,0,none⟩=some (.int .i64 n0):=(Yc B3.out 0).trans rfl;go_step3;go_upto_region 1 with fail
 go_cut [6,7] (fun v6 v7 wx=> ∃ gd gb:Nat,v6= .slice (some ⟨gd,0,none⟩) n0 n0∧v7= .slice (some ⟨gb,0,none⟩) n0 n0∧Aside0 (IsI wx gd (List.replicate n0 (-1)))∧Aside0 (IsS wx gb (List.replicate n0 z79))∧Aside0 (w5.heap.size≤gd∧w5.heap.size≤gb∧gd≠gb)∧Aside0 (Below w5.heap.size w5 wx))
 case first=>
  go_region_held3 (fun w'=>w'.cell? ⟨g3,0,none⟩=some (.int .i64 n0)) (first|(exact pw_cell_below (below_drew (Yo _ _)) (by assumption))|(exact pw_cell_below (Ye (Yo _ _) _) (by assumption))|(exact pw_cell_below hbr (by assumption))|go_keep)
   (first|(go_at_call 99;refine(repeat_core _ 1 n0 (-1) _ (by simp[go_sem]) hn0 hn50).mono ?_;rintro e_ w6 ⟨rfl,hrep,hbr⟩))
  ·go_wp2_with fail
   go_meet;have hbb:=Yk (below_drew (Ye (Yo w5.heap.size w5) _)) hbr;have hsz:=hbr.size;have e1:(w5.alloc (.cells #[.int .i64 (-1)] 3)).drew.heap.size=w5.heap.size+1:=by simp
   rw[e1] at hrep hsz;exact⟨w5.heap.size+1,w6.heap.size,rfl,rfl,⟨IsI.below hrep (Ye (Yo _ _) _)⟩,⟨heap_alloc_new w6 _⟩,⟨Nat.le_succ _,Nat.le_of_succ_le hsz,Nat.ne_of_lt (blk_lt hrep)⟩,⟨Ye hbb _⟩⟩
  ·go_wp2_with fail
   go_meet;have hbb:=Yk (below_drew (Ye (Ye (Yo w5.heap.size w5) _) _)) hbr;have hsz:=hbr.size;have e1:((w5.alloc (.cells #[.int .i64 (-1)] 3)).alloc (.cells (stz n0).toArray 79)).drew.heap.size=w5.heap.size+2:=by simp
   rw[e1] at hrep hsz;have hst:IsS w6 (w5.heap.size+1) (List.replicate n0 z79):=by
    refine IsS.below (w:=((w5.alloc (.cells #[.int .i64 (-1)] 3)).alloc (.cells (stz n0).toArray 79)).drew) ?_ hbr;have h_:=heap_alloc_new (w5.alloc (.cells #[.int .i64 (-1)] 3)) (.cells (stz n0).toArray 79);have e2:(w5.alloc (.cells #[.int .i64 (-1)] 3)).heap.size=w5.heap.size+1:=by simp
    rw[e2] at h_;exact h_
   exact⟨w5.heap.size+2,w5.heap.size+1,rfl,rfl,⟨hrep⟩,⟨hst⟩,⟨by omega,by omega,by omega⟩,⟨hbb⟩⟩
  ·go_wp2_with fail
   go_meet;have hbb:=Yk (below_drew (Ye (Ye (Yo w5.heap.size w5) _) _)) hbr;have hsz:=hbr.size;have e1:((w5.alloc (.cells (stz n0).toArray 79)).alloc (.cells #[.int .i64 (-1)] 3)).drew.heap.size=w5.heap.size+2:=by simp
   rw[e1] at hrep hsz;have hst:IsS w6 w5.heap.size (List.replicate n0 z79):=by
    refine IsS.below (w:=((w5.alloc (.cells (stz n0).toArray 79)).alloc (.cells #[.int .i64 (-1)] 3)).drew) ?_ hbr;exact IsS.below (w:=w5.alloc (.cells (stz n0).toArray 79)) (heap_alloc_new w5 _) (below_drew (Ye (Yo _ _) _))
   exact⟨w5.heap.size+2,w5.heap.size,rfl,rfl,⟨hrep⟩,⟨hst⟩,⟨by omega,by omega,by omega⟩,⟨hbb⟩⟩
 case rest=>
  obtain⟨gd,gb,rfl,rfl,HD,HS,HG,HBC⟩:=hcut;have m0_:=Ya (Yk HB.out HBC.out);have m1_:=Ya (Yn B3.out HBC.out);clear hmk hc0;have GD:Aside0 (g3≠gd∧g3≠gb∧gd≠gb∧w.heap.size≤gd∧w.heap.size≤gb):=⟨by have h1:=blk_lt B3.out;have h2:=HG.out;have h3:=HB.out.size;omega⟩;clear HB B3 HG HBC;have HB:=m0_;have B3:=m1_;clear m0_ m1_;have hd0:wc.cell? ⟨gd,s,none⟩=some (.int .i64 ((List.replicate n0 (-1:Int)).getD s 0)):=HD.out.cell (by simpa using hs);have hf0:=HD.out.free s;have ps:(0:Int)≤(s:Int):=by omega
  have qs:(s:Int)<(n0:Int):=by omega
  have hc0:wc.cell? ⟨g3,0,none⟩=some (.int .i64 n0):=(Yc B3.out 0).trans rfl;have hn3:g3≠gd:=GD.out.1;go_wp2_with fail;have m0_:Aside0 (IsI (wc.setCell ⟨gd,s,none⟩ (.int .i64 0)) gd (dOf n0 [⟨s,z79,0⟩])):=⟨by rw[dOf_one];exact HD.out.put s 0⟩;have m1_:Aside0 (IsS (wc.setCell ⟨gd,s,none⟩ (.int .i64 0)) gb (bOf z79 n0 [⟨s,z79,0⟩])):=⟨by rw[bOf_one];exact HS.out.far (by have:=GD.out;show gb≠gd;omega) _⟩;have m2_:Aside0 ((wc.setCell ⟨gd,s,none⟩ (.int .i64 0)).heap[g3]? =some (.cells #[.int .i64 n0, .bool Zc, .slice A2 l.length c2, .slice A3 F.length c3, .slice (some ad4) n0 c4] 107 (0,0))):=⟨blk_far B3.out (p:=⟨gd,s,none⟩) hn3 _⟩;have m3_:=Ya (Yh (j:=s) (v:= .int .i64 0) HB.out GD.out.2.2.2.1);clear HD HS B3 HB hd0 hf0 hc0 hn3;have HD:=m0_;have HS:=m1_;have B3:=m2_;have HB:=m3_;clear m0_ m1_ m2_ m3_;generalize wc.setCell ⟨gd,s,none⟩ (.int .i64 0)=w8 at *;go_wp2_with (first|(go_at_call 100;refine(que_new n0 _ hn50).mono ?_;rintro e_ w9 ⟨gq,rfl,hge,hq,hbq⟩;have m0_:=Ya (HD.out.below hbq);have m1_:=Ya (HS.out.below hbq);have m2_:=Ya (Yn B3.out hbq);have m3_:=Ya (Yk HB.out hbq);have GQ:Aside0 (w.heap.size≤gq∧gq≠gd∧gq≠gb∧gq≠g3):=⟨by have h1:=HD.out.lt;have h2:=HS.out.lt;have h3:=blk_lt B3.out;have h4:=HB.out.size;omega⟩;have HQ:=Ya hq;clear HD HS B3 HB hq hbq hge;have HD:=m0_;have HS:=m1_;have B3:=m2_;have HB:=m3_;clear m0_ m1_ m2_ m3_)|(go_at_call 101;refine(que_put_grow gq none [] 0 n0 (s:Int) _ HQ.out hn0).mono ?_;rintro e_ w10 ⟨rfl,bq,R1,hbq,hq,hql,hk⟩;have HM:Aside0 (Sm n0 Zc A2 c2 l A3 c3 F (some ad4) c4 g3 gd gb gq w [⟨s,z79,0⟩] 0 w10):=⟨⟨HD.out.kept hk (Ne.symm GQ.out.2.1),HS.out.kept hk (Ne.symm GQ.out.2.2.1),hk.blk B3.out (Ne.symm GQ.out.2.2.2),⟨_,R1,0,hq,hql,fun k hk2=>(by rcases hk2 with rfl|⟨a,ha,rfl⟩;exact GQ.out;cases ha;have h1:=HD.out.lt;have h2:=HS.out.lt;have h3:=blk_lt B3.out;have h4:=HB.out.size;show w.heap.size≤bq∧bq≠gd∧bq≠gb∧bq≠g3;omega)⟩,hk.toBelow HB.out HB.out.size (fun b hb=>by have:=GQ.out;omega)⟩⟩;clear HD HS B3 HB HQ hq hql hk hbq)|fail);go_step3;go_wp2_with fail;go_loopw [10] (fun v10 w'=> ∃ m,SR n0 Zc A2 c2 l A3 c3 F (some ad4) c4 g3 gd gb gq s t w w' m) (fun _ w'=>least (SR n0 Zc A2 c2 l A3 c3 F (some ad4) c4 g3 gd gb gq s t w w'))
  case atStart=>exact⟨_,_,_,rfl,lp_start hs HTS.out,HM.out⟩
  case round=>
   clear HM;have hsp:=least_spec hrel;obtain⟨M,hM⟩: ∃ M_,M_=least (SR n0 Zc A2 c2 l A3 c3 F (some ad4) c4 g3 gd gb gq s t w wr):=⟨_,rfl⟩;rw[← hM] at hsp;have HLE:=Ya hM;clear hM hrel;obtain⟨st,i,hmi,hlp,hsm⟩:=hsp;have HMI:=Ya hmi;have HLP:=Ya hlp;have HSM:=Ya hsm;clear hmi hlp hsm;have hstn:=HLP.out.len HR.out hs;have hile:=HLP.out.ile;obtain⟨A,R,fr,hq,hql,hsep⟩:=HSM.out.que;by_cases hlt:i<st.length
   ·obtain⟨x,hx⟩: ∃ x,st[i]? =some x:=⟨_,List.getElem?_eq_getElem hlt⟩
    obtain⟨k,hk⟩: ∃ k,st.length - i=k+1:=⟨st.length - i - 1,by omega⟩;rw[hk] at hq hql;have hk2:st.length - (i+1)=k:=by omega
    obtain⟨bq,eA⟩: ∃ b,A=some ⟨b,0,none⟩:=by
     rcases hq.ring with ⟨_,h1⟩|⟨b,h1,_⟩
     ·have:=hq.szr;rw[h1] at this;simp at this
     ·exact⟨b,h1⟩
    subst eA;have hfr:fr<R.length:=by
     rcases hq.frr with h1|⟨_,h1⟩
     ·exact h1
     ·have:=hq.szr;rw[h1] at this;simp at this
    rw[qL_take R fr k hfr,qOf_cons hx] at hql;injection hql with hv hql
    have hxn:x.v<n0:=fds_lt HLP.out.upto.fds (esP_to HR.out) hs _ (List.mem_map_of_mem (List.mem_of_getElem? hx));have HTK:=Ya (by have h_:=que_take gq bq R fr k n0 wr hq;rw[hv] at h_;exact h_);have HQL:=Ya hql;have HSEP:=Ya hsep;have HX:=Ya hx;have HQ:=Ya hq;have HK2:=Ya hk2;obtain⟨ad,cv0,had,_,hKv,hcell⟩:=Kd.C_get H4.out [] (x.v:Int) (by omega) (by omega);cases had;have hrow:(rowsAt l n0 n0).getD (x.v:Int).toNat []=stL l x.v l.length:=by rw[Int.toNat_natCast,List.getD_eq_getElem?_getD,rowsAt_get l n0 n0 _ hxn,Yx hxn];rfl
    rw[hrow] at hKv;obtain⟨Av,cv,rfl,hlv,hCv⟩:=hKv;have hrw:=hcell 0 _ rfl;have e0:(x.v:Int).toNat * (Kd.slice 79 k79).sz+0=x.v:=by rw[Int.toNat_natCast];show x.v * 1+0=x.v;omega
    rw[e0] at hrw;have HCV:=Ya hCv;have HRC:=Ya hrw;have px:(0:Int)≤(x.v:Int):=by omega
    have qx:(x.v:Int)<(n0:Int):=by omega
    obtain⟨v,hvx⟩: ∃ v_,v_=x.v:=⟨_,rfl⟩;have hlen4:(stL l x.v l.length).length≤400:=by have:=stL_len l x.v l.length;have:=HR.out.arcs;omega
    clear hq hql hsep hx hv hk hk2 hcell hrow hlv hCv hrw e0;have e1:decide ((0:Int)<(k:Int)+1)=true:=Yv (by omega);go_wp2_with (first|(go_at_call 102;refine(que_len gq _ R fr (k+1) n0 _ HQ.out).mono ?_;rintro e_ w_ ⟨rfl,hw_⟩;subst hw_)|(go_at_call 103;refine HTK.out.mono ?_;rintro e_ w11 ⟨rfl,hq2,hk11⟩;have HM:Aside0 (Sm n0 Zc A2 c2 l A3 c3 F (some ad4) c4 g3 gd gb gq w st (i+1) w11):=⟨⟨HSM.out.D.kept hk11 (fun e=>(HSEP.out gq (.inl rfl)).2.1 e.symm),HSM.out.B.kept hk11 (fun e=>(HSEP.out gq (.inl rfl)).2.2.1 e.symm),hk11.blk HSM.out.b3 (fun e=>(HSEP.out gq (.inl rfl)).2.2.2 e.symm),⟨_,R,_,by rw[HK2.out];exact hq2,by rw[HK2.out];exact HQL.out,HSEP.out⟩,hk11.toBelow HSM.out.below HSM.out.below.size (fun b hb=>by have:=HSEP.out gq (.inl rfl);omega)⟩⟩;clear hq2 hk11;have hc4:w11.cell? ⟨g3,4,none⟩=some (.slice (some ad4) n0 c4):=(Yc HM.out.b3 4).trans rfl;have hcr:=pw_cell_below HM.out.below HRC.out)|fail);clear hc4 hcr HRC;obtain⟨LN,hLN⟩: ∃ n_,n_=(stL l x.v l.length).length:=⟨_,rfl⟩;rw[← hLN] at hlen4 ⊢;have HLN:=Ya hLN;clear hLN;obtain⟨w2,hw2⟩: ∃ x_:World,x_=w11:=⟨_,rfl⟩;subst hw2;go_loopw [54] (fun v54 w'=> ∃ (j:Nat) (stj:List (Fd S79)),j≤LN∧v54= .int .i64 j∧Aside0 (Li l F n0 s t x (proc (toP l) (esP l F) st x) stj i j)∧Aside0 (Sm n0 Zc A2 c2 l A3 c3 F (some ad4) c4 g3 gd gb gq w stj (i+1) w')) (fun v54 _=>LN - (intOf v54).toNat)
    case atStart=>exact⟨0,st,Nat.zero_le _,rfl,⟨HLP.out.inner HX.out⟩,HM⟩
    case round=>
     clear HM;obtain⟨j,stj,hj,rfl,HLI,HSJ⟩:=hrel;by_cases hltj:j<LN
     ·have c55:decide ((j:Int)<(LN:Int))=true:=Yv (by omega)
      have pj:(0:Int)≤(j:Int):=by omega
      have qj:(j:Int)<(LN:Int):=by omega
      obtain⟨adj,eadj,hs0,hs1⟩:=at_T79 (Yt HCV.out HSJ.out.below) (j:Int) pj (by rw[← HLN.out];exact qj);cases eadj;simp only[Int.toNat_natCast] at hs0 hs1;obtain⟨e,hee⟩: ∃ e_,e_=rd_T79 (stL l x.v l.length) (j:Int):=⟨_,rfl⟩;rw[← hee] at hs0 hs1;have hej:(stL l x.v l.length)[j]? =some e:=by
       rw[hee];unfold rd_T79;rw[Int.toNat_natCast,List.getD_eq_getElem?_getD,List.getElem?_eq_getElem (by rw[← HLN.out];exact hltj)];rfl
      have hso:StepOf l e:=stL_of (List.mem_of_getElem? hej);have HEJ:=Ya hej;have HSO:=Ya hso;clear hee hej hso;obtain⟨u,hu⟩: ∃ u_:Nat,stTo l e=(u_:Int):=⟨(stTo l e).toNat,by have:=stTo_in HR.out HSO.out;omega⟩;obtain⟨rm,hrm⟩: ∃ d_,d_=stRoom l F e:=⟨_,rfl⟩;obtain⟨y,hy⟩: ∃ y_,y_=(dOf n0 stj).getD u 0:=⟨_,rfl⟩;have hun:u<n0:=by have:=stTo_in HR.out HSO.out;omega
      have hup:toP l e=u:=by unfold toP;rw[hu,Int.toNat_natCast]
      have HTO:=Ya (to_f HR.out HSO.out (n0:Int) Zc);have HRM:=Ya (room_f HR.out HSO.out (n0:Int) Zc);rw[hu] at HTO;rw[← hrm] at HRM;have hrm0:0≤rm:=by rw[hrm];exact(stRoom_in HR.out HSO.out).1
      have HY:=Ya hy;have HUP:=Ya hup;have HRMV:=Ya hrm;have hneg:=dOf_neg stj 0 hun;rw[← hy] at hneg;clear hu hrm hy hup;have pu:(0:Int)≤(u:Int):=by omega
      have qu:(u:Int)<(n0:Int):=by omega
      by_cases hmem:u∈nodes stj
      ·have hy0: ¬ y<0:=fun h=>hneg.1 h hmem
       have ey:decide (0≤y)=true:=Yv (by omega);have HNX:Aside0 (Li l F n0 s t x (proc (toP l) (esP l F) st x) stj i (j+1)):=⟨HLI.out.skip HEJ.out (.inr (by rw[HUP.out];exact hmem))⟩;clear hneg hmem hy0;go_wp2_with (first|((with_reducible refine gate_dst (N:=13) rfl ?_);refine Yz ?hg (N:=13) ?hd (cs:= #[.int .i64 0, .bool false]) (t:=79) ?hr ?_;(case hd=>rfl);(case hg=>rfl);(case hr=>first|(go_simp;done)|(go_simp;rfl));intro g8 hg w6 Zg hb;have GE8:Aside0 (wr.heap.size≤g8):=⟨Nat.le_of_eq hg.symm⟩;have B8:=Ya Zg;have HBL:=Ya hb;clear Zg hg hb;have hcz0:w6.cell? ⟨g8,0,none⟩=some (.int .i64 0):=(Yc B8.out 0).trans rfl;have hcz1:w6.cell? ⟨g8,1,none⟩=some (.bool false):=(Yc B8.out 1).trans rfl;have hfz0:=Yf B8.out 0;have hfz1:=Yf B8.out 1)|((with_reducible refine gate_store (t:=79) (p:=13) rfl ?_);refine store_event (t:=79) (p:=13) (v:= ?vo) (w1:=((w6.setCell ⟨g8,0,none⟩ (.int .i64 e.f0)).setCell ⟨g8,1,none⟩ (.bool e.f1))) ?hg ?ho ?hn ?hr ?_;(case ho=>rfl);(case hg=>rfl);(case hn=>rfl);(case hr=>first|(go_simp;done)|(go_simp;rfl));intro w8 hw;have m0_:Aside0 (w8.heap[g8]? =some (.cells #[.int .i64 e.f0, .bool e.f1] 79 (0,0))):=⟨by rw[hw];refine YA (cs:= #[.int .i64 e.f0, .bool false]) ?_ 1 _ rfl;refine YA (cs:= #[.int .i64 0, .bool false]) ?_ 0 _ rfl;exact B8.out⟩;have m1_:Aside0 (Below wr.heap.size wr w8):=⟨by rw[hw];exact Yh (Yh HBL.out GE8.out) GE8.out⟩;clear hw B8 HBL hcz0 hcz1 hfz0 hfz1 hs0 hs1;have B8:=m0_;clear m0_;have m0_:=Ya (HSJ.out.step m1_.out);have HG8:Aside0 (g8≠gd∧g8≠gb∧g8≠g3):=⟨by have h1:=HSJ.out.D.lt;have h2:=HSJ.out.B.lt;have h3:=blk_lt HSJ.out.b3;have h4:=GE8.out;omega⟩;clear HSJ m1_;have HSJ:=m0_;clear m0_;have c0:w8.cell? ⟨g3,0,none⟩=some (.int .i64 n0):=(Yc HSJ.out.b3 0).trans rfl;have c1:w8.cell? ⟨g3,1,none⟩=some (.bool Zc):=(Yc HSJ.out.b3 1).trans rfl;have c2_:w8.cell? ⟨g3,2,none⟩=some (.slice A2 l.length c2):=(Yc HSJ.out.b3 2).trans rfl;have c3_:w8.cell? ⟨g3,3,none⟩=some (.slice A3 F.length c3):=(Yc HSJ.out.b3 3).trans rfl;have s0:w8.cell? ⟨g8,0,none⟩=some (.int .i64 e.f0):=(Yc B8.out 0).trans rfl;have s1:w8.cell? ⟨g8,1,none⟩=some (.bool e.f1):=(Yc B8.out 1).trans rfl;have hcu:w8.cell? ⟨gd,u,none⟩=some (.int .i64 y):=(by rw[HY.out];exact HSJ.out.D.cell (by rw[dOf_len];exact hun)))|(go_at_call 93;refine(static_Flowing_To.calls (n0:Int) Zc A2 c2 l A3 c3 F e.f0 e.f1 (u:Int) _ (Yt H2.out HSJ.out.below) HC2.out (Yt H3.out HSJ.out.below) HC3.out HTO.out).mono ?_;rintro e_ w9 ⟨rfl,hb9⟩;have m0_:=Ya (HSJ.out.step hb9);have m1_:=Ya (Yn B8.out hb9);clear HSJ B8 hb9 c0 c1 c2_ c3_ s0 s1 hcu;have HSJ:=m0_;have B8:=m1_;clear m0_ m1_;have c0:w9.cell? ⟨g3,0,none⟩=some (.int .i64 n0):=(Yc HSJ.out.b3 0).trans rfl;have c1:w9.cell? ⟨g3,1,none⟩=some (.bool Zc):=(Yc HSJ.out.b3 1).trans rfl;have c2_:w9.cell? ⟨g3,2,none⟩=some (.slice A2 l.length c2):=(Yc HSJ.out.b3 2).trans rfl;have c3_:w9.cell? ⟨g3,3,none⟩=some (.slice A3 F.length c3):=(Yc HSJ.out.b3 3).trans rfl;have s0:w9.cell? ⟨g8,0,none⟩=some (.int .i64 e.f0):=(Yc B8.out 0).trans rfl;have s1:w9.cell? ⟨g8,1,none⟩=some (.bool e.f1):=(Yc B8.out 1).trans rfl;have hcu:w9.cell? ⟨gd,u,none⟩=some (.int .i64 y):=(by rw[HY.out];exact HSJ.out.D.cell (by rw[dOf_len];exact hun)))|fail);go_roundw
       case rel=>exact⟨j+1,stj,by omega,by go_num,HNX,HSJ⟩
       case measure=>simp[intOf]<;>omega
      ·have hy0:y<0:=hneg.2 hmem
       have ey:decide (0≤y)=false:=Yw (by omega);have HMEM:Aside0 (toP l e ∉ nodes stj):=⟨by rw[HUP.out];exact hmem⟩;clear hneg hmem hy0;by_cases hr0:rm=0
       ·have er:(rm == 0)=true:=beq_iff_eq.2 hr0
        have HNX:Aside0 (Li l F n0 s t x (proc (toP l) (esP l F) st x) stj i (j+1)):=⟨HLI.out.skip HEJ.out (.inl (by rw[← HRMV.out];omega))⟩;clear hr0;go_wp2_with (first|((with_reducible refine gate_dst (N:=13) rfl ?_);refine Yz ?hg (N:=13) ?hd (cs:= #[.int .i64 0, .bool false]) (t:=79) ?hr ?_;(case hd=>rfl);(case hg=>rfl);(case hr=>first|(go_simp;done)|(go_simp;rfl));intro g8 hg w6 Zg hb;have GE8:Aside0 (wr.heap.size≤g8):=⟨Nat.le_of_eq hg.symm⟩;have B8:=Ya Zg;have HBL:=Ya hb;clear Zg hg hb;have hcz0:w6.cell? ⟨g8,0,none⟩=some (.int .i64 0):=(Yc B8.out 0).trans rfl;have hcz1:w6.cell? ⟨g8,1,none⟩=some (.bool false):=(Yc B8.out 1).trans rfl;have hfz0:=Yf B8.out 0;have hfz1:=Yf B8.out 1)|((with_reducible refine gate_store (t:=79) (p:=13) rfl ?_);refine store_event (t:=79) (p:=13) (v:= ?vo) (w1:=((w6.setCell ⟨g8,0,none⟩ (.int .i64 e.f0)).setCell ⟨g8,1,none⟩ (.bool e.f1))) ?hg ?ho ?hn ?hr ?_;(case ho=>rfl);(case hg=>rfl);(case hn=>rfl);(case hr=>first|(go_simp;done)|(go_simp;rfl));intro w8 hw;have m0_:Aside0 (w8.heap[g8]? =some (.cells #[.int .i64 e.f0, .bool e.f1] 79 (0,0))):=⟨by rw[hw];refine YA (cs:= #[.int .i64 e.f0, .bool false]) ?_ 1 _ rfl;refine YA (cs:= #[.int .i64 0, .bool false]) ?_ 0 _ rfl;exact B8.out⟩;have m1_:Aside0 (Below wr.heap.size wr w8):=⟨by rw[hw];exact Yh (Yh HBL.out GE8.out) GE8.out⟩;clear hw B8 HBL hcz0 hcz1 hfz0 hfz1 hs0 hs1;have B8:=m0_;clear m0_;have m0_:=Ya (HSJ.out.step m1_.out);have HG8:Aside0 (g8≠gd∧g8≠gb∧g8≠g3):=⟨by have h1:=HSJ.out.D.lt;have h2:=HSJ.out.B.lt;have h3:=blk_lt HSJ.out.b3;have h4:=GE8.out;omega⟩;clear HSJ m1_;have HSJ:=m0_;clear m0_;have c0:w8.cell? ⟨g3,0,none⟩=some (.int .i64 n0):=(Yc HSJ.out.b3 0).trans rfl;have c1:w8.cell? ⟨g3,1,none⟩=some (.bool Zc):=(Yc HSJ.out.b3 1).trans rfl;have c2_:w8.cell? ⟨g3,2,none⟩=some (.slice A2 l.length c2):=(Yc HSJ.out.b3 2).trans rfl;have c3_:w8.cell? ⟨g3,3,none⟩=some (.slice A3 F.length c3):=(Yc HSJ.out.b3 3).trans rfl;have s0:w8.cell? ⟨g8,0,none⟩=some (.int .i64 e.f0):=(Yc B8.out 0).trans rfl;have s1:w8.cell? ⟨g8,1,none⟩=some (.bool e.f1):=(Yc B8.out 1).trans rfl;have hcu:w8.cell? ⟨gd,u,none⟩=some (.int .i64 y):=(by rw[HY.out];exact HSJ.out.D.cell (by rw[dOf_len];exact hun)))|(go_at_call 93;refine(static_Flowing_To.calls (n0:Int) Zc A2 c2 l A3 c3 F e.f0 e.f1 (u:Int) _ (Yt H2.out HSJ.out.below) HC2.out (Yt H3.out HSJ.out.below) HC3.out HTO.out).mono ?_;rintro e_ w9 ⟨rfl,hb9⟩;have m0_:=Ya (HSJ.out.step hb9);have m1_:=Ya (Yn B8.out hb9);clear HSJ B8 hb9 c0 c1 c2_ c3_ s0 s1 hcu;have HSJ:=m0_;have B8:=m1_;clear m0_ m1_;have c0:w9.cell? ⟨g3,0,none⟩=some (.int .i64 n0):=(Yc HSJ.out.b3 0).trans rfl;have c1:w9.cell? ⟨g3,1,none⟩=some (.bool Zc):=(Yc HSJ.out.b3 1).trans rfl;have c2_:w9.cell? ⟨g3,2,none⟩=some (.slice A2 l.length c2):=(Yc HSJ.out.b3 2).trans rfl;have c3_:w9.cell? ⟨g3,3,none⟩=some (.slice A3 F.length c3):=(Yc HSJ.out.b3 3).trans rfl;have s0:w9.cell? ⟨g8,0,none⟩=some (.int .i64 e.f0):=(Yc B8.out 0).trans rfl;have s1:w9.cell? ⟨g8,1,none⟩=some (.bool e.f1):=(Yc B8.out 1).trans rfl;have hcu:w9.cell? ⟨gd,u,none⟩=some (.int .i64 y):=(by rw[HY.out];exact HSJ.out.D.cell (by rw[dOf_len];exact hun)))|(go_at_call 89;refine(static_Flowing_Room.calls (n0:Int) Zc A2 c2 l A3 c3 F e.f0 e.f1 rm _ (Yt H2.out HSJ.out.below) HC2.out (Yt H3.out HSJ.out.below) HC3.out HRM.out).mono ?_;rintro e_ w10 ⟨rfl,hb9⟩;have m0_:=Ya (HSJ.out.step hb9);have m1_:=Ya (Yn B8.out hb9);clear HSJ B8 hb9 c0 c1 c2_ c3_ s0 s1 hcu;have HSJ:=m0_;have B8:=m1_;clear m0_ m1_;have c0:w10.cell? ⟨g3,0,none⟩=some (.int .i64 n0):=(Yc HSJ.out.b3 0).trans rfl;have c1:w10.cell? ⟨g3,1,none⟩=some (.bool Zc):=(Yc HSJ.out.b3 1).trans rfl;have c2_:w10.cell? ⟨g3,2,none⟩=some (.slice A2 l.length c2):=(Yc HSJ.out.b3 2).trans rfl;have c3_:w10.cell? ⟨g3,3,none⟩=some (.slice A3 F.length c3):=(Yc HSJ.out.b3 3).trans rfl;have s0:w10.cell? ⟨g8,0,none⟩=some (.int .i64 e.f0):=(Yc B8.out 0).trans rfl;have s1:w10.cell? ⟨g8,1,none⟩=some (.bool e.f1):=(Yc B8.out 1).trans rfl;have hcu:w10.cell? ⟨gd,u,none⟩=some (.int .i64 y):=(by rw[HY.out];exact HSJ.out.D.cell (by rw[dOf_len];exact hun)))|fail);go_roundw
        case rel=>exact⟨j+1,stj,by omega,by go_num,HNX,HSJ⟩
        case measure=>simp[intOf]<;>omega
       ·have er:(rm == 0)=false:=beq_eq_false_iff_ne.2 hr0
        have HRP:Aside0 (0<stRoom l F e):=⟨by rw[← HRMV.out];omega⟩;clear hr0;go_wp2_with (first|((with_reducible refine gate_dst (N:=13) rfl ?_);refine Yz ?hg (N:=13) ?hd (cs:= #[.int .i64 0, .bool false]) (t:=79) ?hr ?_;(case hd=>rfl);(case hg=>rfl);(case hr=>first|(go_simp;done)|(go_simp;rfl));intro g8 hg w6 Zg hb;have GE8:Aside0 (wr.heap.size≤g8):=⟨Nat.le_of_eq hg.symm⟩;have B8:=Ya Zg;have HBL:=Ya hb;clear Zg hg hb;have hcz0:w6.cell? ⟨g8,0,none⟩=some (.int .i64 0):=(Yc B8.out 0).trans rfl;have hcz1:w6.cell? ⟨g8,1,none⟩=some (.bool false):=(Yc B8.out 1).trans rfl;have hfz0:=Yf B8.out 0;have hfz1:=Yf B8.out 1)|((with_reducible refine gate_store (t:=79) (p:=13) rfl ?_);refine store_event (t:=79) (p:=13) (v:= ?vo) (w1:=((w6.setCell ⟨g8,0,none⟩ (.int .i64 e.f0)).setCell ⟨g8,1,none⟩ (.bool e.f1))) ?hg ?ho ?hn ?hr ?_;(case ho=>rfl);(case hg=>rfl);(case hn=>rfl);(case hr=>first|(go_simp;done)|(go_simp;rfl));intro w8 hw;have m0_:Aside0 (w8.heap[g8]? =some (.cells #[.int .i64 e.f0, .bool e.f1] 79 (0,0))):=⟨by rw[hw];refine YA (cs:= #[.int .i64 e.f0, .bool false]) ?_ 1 _ rfl;refine YA (cs:= #[.int .i64 0, .bool false]) ?_ 0 _ rfl;exact B8.out⟩;have m1_:Aside0 (Below wr.heap.size wr w8):=⟨by rw[hw];exact Yh (Yh HBL.out GE8.out) GE8.out⟩;clear hw B8 HBL hcz0 hcz1 hfz0 hfz1 hs0 hs1;have B8:=m0_;clear m0_;have m0_:=Ya (HSJ.out.step m1_.out);have HG8:Aside0 (g8≠gd∧g8≠gb∧g8≠g3):=⟨by have h1:=HSJ.out.D.lt;have h2:=HSJ.out.B.lt;have h3:=blk_lt HSJ.out.b3;have h4:=GE8.out;omega⟩;clear HSJ m1_;have HSJ:=m0_;clear m0_;have c0:w8.cell? ⟨g3,0,none⟩=some (.int .i64 n0):=(Yc HSJ.out.b3 0).trans rfl;have c1:w8.cell? ⟨g3,1,none⟩=some (.bool Zc):=(Yc HSJ.out.b3 1).trans rfl;have c2_:w8.cell? ⟨g3,2,none⟩=some (.slice A2 l.length c2):=(Yc HSJ.out.b3 2).trans rfl;have c3_:w8.cell? ⟨g3,3,none⟩=some (.slice A3 F.length c3):=(Yc HSJ.out.b3 3).trans rfl;have s0:w8.cell? ⟨g8,0,none⟩=some (.int .i64 e.f0):=(Yc B8.out 0).trans rfl;have s1:w8.cell? ⟨g8,1,none⟩=some (.bool e.f1):=(Yc B8.out 1).trans rfl;have hcu:w8.cell? ⟨gd,u,none⟩=some (.int .i64 y):=(by rw[HY.out];exact HSJ.out.D.cell (by rw[dOf_len];exact hun)))|(go_at_call 93;refine(static_Flowing_To.calls (n0:Int) Zc A2 c2 l A3 c3 F e.f0 e.f1 (u:Int) _ (Yt H2.out HSJ.out.below) HC2.out (Yt H3.out HSJ.out.below) HC3.out HTO.out).mono ?_;rintro e_ w9 ⟨rfl,hb9⟩;have m0_:=Ya (HSJ.out.step hb9);have m1_:=Ya (Yn B8.out hb9);clear HSJ B8 hb9 c0 c1 c2_ c3_ s0 s1 hcu;have HSJ:=m0_;have B8:=m1_;clear m0_ m1_;have c0:w9.cell? ⟨g3,0,none⟩=some (.int .i64 n0):=(Yc HSJ.out.b3 0).trans rfl;have c1:w9.cell? ⟨g3,1,none⟩=some (.bool Zc):=(Yc HSJ.out.b3 1).trans rfl;have c2_:w9.cell? ⟨g3,2,none⟩=some (.slice A2 l.length c2):=(Yc HSJ.out.b3 2).trans rfl;have c3_:w9.cell? ⟨g3,3,none⟩=some (.slice A3 F.length c3):=(Yc HSJ.out.b3 3).trans rfl;have s0:w9.cell? ⟨g8,0,none⟩=some (.int .i64 e.f0):=(Yc B8.out 0).trans rfl;have s1:w9.cell? ⟨g8,1,none⟩=some (.bool e.f1):=(Yc B8.out 1).trans rfl;have hcu:w9.cell? ⟨gd,u,none⟩=some (.int .i64 y):=(by rw[HY.out];exact HSJ.out.D.cell (by rw[dOf_len];exact hun)))|(go_at_call 89;refine(static_Flowing_Room.calls (n0:Int) Zc A2 c2 l A3 c3 F e.f0 e.f1 rm _ (Yt H2.out HSJ.out.below) HC2.out (Yt H3.out HSJ.out.below) HC3.out HRM.out).mono ?_;rintro e_ w10 ⟨rfl,hb9⟩;have m0_:=Ya (HSJ.out.step hb9);have m1_:=Ya (Yn B8.out hb9);clear HSJ B8 hb9 c0 c1 c2_ c3_ s0 s1 hcu;have HSJ:=m0_;have B8:=m1_;clear m0_ m1_;have c0:w10.cell? ⟨g3,0,none⟩=some (.int .i64 n0):=(Yc HSJ.out.b3 0).trans rfl;have c1:w10.cell? ⟨g3,1,none⟩=some (.bool Zc):=(Yc HSJ.out.b3 1).trans rfl;have c2_:w10.cell? ⟨g3,2,none⟩=some (.slice A2 l.length c2):=(Yc HSJ.out.b3 2).trans rfl;have c3_:w10.cell? ⟨g3,3,none⟩=some (.slice A3 F.length c3):=(Yc HSJ.out.b3 3).trans rfl;have s0:w10.cell? ⟨g8,0,none⟩=some (.int .i64 e.f0):=(Yc B8.out 0).trans rfl;have s1:w10.cell? ⟨g8,1,none⟩=some (.bool e.f1):=(Yc B8.out 1).trans rfl;have hcu:w10.cell? ⟨gd,u,none⟩=some (.int .i64 y):=(by rw[HY.out];exact HSJ.out.D.cell (by rw[dOf_len];exact hun)))|fail);obtain⟨lv,hlv⟩: ∃ n_,n_=x.lv:=⟨_,rfl⟩;have hxm:x∈stj:=List.mem_of_getElem? HLI.out.at_;have hlv50:x.lv<50:=by have:=lv_lt HLI.out.fds hxm;have:=fds_len HLI.out.fds (esP_to HR.out) hs;omega
        have hcv:w10.cell? ⟨gd,x.v,none⟩=some (.int .i64 (lv:Int)):=by
         rw[hlv, ← dOf_mem HLI.out.fds.nodup hxm 0 hxn];exact HSJ.out.D.cell (by rw[dOf_len];exact hxn)
        rw[← hlv] at hlv50;have HLV:=Ya hlv;clear hlv hxm c0 c1 c2_ c3_;obtain⟨hb0,hb1⟩:=HSJ.out.B.cell z79 (j:=u) (by rw[bOf_len];exact hun);generalize ((bOf z79 n0 stj).getD u z79)=zz at hb0 hb1;have fd:=HSJ.out.D.free u;have fb0:=HSJ.out.B.free (u * 2);have fb1:=HSJ.out.B.free (u * 2+1);obtain⟨n1,n2,n3⟩:=HG8.out;obtain⟨n4,n5,n6,n7,n8⟩:=GD.out;have pl0:(0:Int)≤(lv:Int):=by omega
        have pl1:(lv:Int)<50:=by omega
        go_region;have m0_:Aside0 (IsI (seekW w10 gd gb u ((lv:Int)+1) e) gd (dOf n0 (stj ++ [⟨toP l e,e,x.lv+1⟩]))):=⟨by
         rw[dOf_snoc n0 HMEM.out,HUP.out, ← HLV.out];exact seek_D HSJ.out.D n6 u _ e⟩
        have m1_:Aside0 (IsS (seekW w10 gd gb u ((lv:Int)+1) e) gb (bOf z79 n0 (stj ++ [⟨toP l e,e,x.lv+1⟩]))):=⟨by
         rw[bOf_snoc z79 n0 HMEM.out,HUP.out];exact seek_B HSJ.out.B n6 u _ e⟩
        have m2_:Aside0 ((seekW w10 gd gb u ((lv:Int)+1) e).heap[g3]? =some (.cells #[.int .i64 n0, .bool Zc, .slice A2 l.length c2, .slice A3 F.length c3, .slice (some ad4) n0 c4] 107 (0,0))):=⟨(seek_far w10 u _ e n4 n5).trans HSJ.out.b3⟩;have m3_:Aside0 (Below w.heap.size w (seekW w10 gd gb u ((lv:Int)+1) e)):=⟨below_drew (Yh (Yh (Yh HSJ.out.below n7) n8) n8)⟩;obtain⟨Aj,Rj,frj,hqj,hqlj,hsj⟩:=HSJ.out.que;have hqj2:=hqj.step (w1:=seekW w10 gd gb u ((lv:Int)+1) e) (fun k _ hk=>seek_far w10 u _ e (hsj k hk).2.1 (hsj k hk).2.2.1);have HQJ:=Ya hqj2;have HQLJ:=Ya hqlj;have HSEPJ:=Ya hsj;have hif:i<stj.length:=(List.getElem?_eq_some_iff.1 HLI.out.at_).1;have hadd:=HLI.out.add HEJ.out HRP.out HMEM.out;have hcount:stj.length+1≤n0:=by have:=fds_len hadd.1 (esP_to HR.out) hs;simpa using this
        clear hqj hqj2 hqlj hsj HSJ B8 hb0 hb1 fd fb0 fb1 hcv hcu s0 s1 n1 n2 n3 hadd HG8;have HD:=m0_;have HS:=m1_;have B3:=m2_;have HB:=m3_;clear m0_ m1_ m2_ m3_;generalize hw12:(((w10.setCell ⟨gd,u,none⟩ (.int .i64 ((lv:Int)+1))).setCell ⟨gb,u * 2,none⟩ (.int .i64 e.f0)).setCell ⟨gb,u * 2+1,none⟩ (.bool e.f1)).drew=w12;rw[show seekW w10 gd gb u ((lv:Int)+1) e=w12 from hw12] at HD HS B3 HB HQJ;clear hw12;by_cases htu:t=(u:Int)
        ·have et:((u:Int) == t)=true:=by rw[htu];simp
         have HSN:=Ya (HLI.out.found HLP.out HX.out (by omega) HEJ.out HRP.out HMEM.out (by rw[HUP.out];exact htu));clear htu;go_wp2_with fail;rw[Exit.noGoto_ret];go_ret2;exact⟨gd,gb,_,rfl,n7,n8,n6,HD.out,HS.out,HB.out,HSN.out⟩
        ·have et:((u:Int) == t)=false:=beq_eq_false_iff_ne.2 (Ne.symm htu)
         have HNX:=Ya (HLI.out.put HEJ.out HRP.out HMEM.out (by rw[HUP.out];exact htu));clear htu;go_wp2_with (first|(go_at_call 101;refine(que_put gq Aj Rj frj (stj.length - (i+1)) n0 (u:Int) _ HQJ.out (by omega)).mono ?_;rintro e_ w13 ⟨rfl,A',R',fr',hq',hql',hk',hs'⟩;have HM:Aside0 (Sm n0 Zc A2 c2 l A3 c3 F (some ad4) c4 g3 gd gb gq w (stj ++ [⟨toP l e,e,x.lv+1⟩]) (i+1) w13):=⟨⟨HD.out.kept hk' (fun h=>(HSEPJ.out _ h).2.1 rfl),HS.out.kept hk' (fun h=>(HSEPJ.out _ h).2.2.1 rfl),hk'.blk B3.out (fun h=>(HSEPJ.out _ h).2.2.2 rfl),⟨A',R',fr',by rw[List.length_append,List.length_singleton,show stj.length+1 - (i+1)=stj.length - (i+1)+1 by omega];exact hq',by rw[List.length_append,List.length_singleton,show stj.length+1 - (i+1)=stj.length - (i+1)+1 by omega,hql',HQLJ.out,qOf_snoc (by omega)];show _=qOf stj (i+1) ++ [((toP l e:Nat):Int)];rw[HUP.out],fun k hk=>(hs' k hk).elim (HSEPJ.out k) (fun h=>by have h1:=HB.out.size;have h2:=HD.out.lt;have h3:=HS.out.lt;have h4:=blk_lt B3.out;omega)⟩,hk'.toBelow HB.out HB.out.size (fun b hb=>(HSEPJ.out b hb).1)⟩⟩;clear HD HS B3 HB hq' hql' hk' hs')|fail);go_roundw
         case rel=>exact⟨j+1,_,by omega,by go_num,HNX,HM⟩
         case measure=>simp[intOf]<;>omega
     ·have ej:j=LN:=by omega
      subst ej;have c55:decide ((j:Int)<(j:Int))=false:=Yw (by omega);go_wp2_with fail;go_roundw
      case rel=>exact⟨_,stj,i+1,rfl,Li.next HR.out hs HLP.out HX.out (by have h_:=HLI.out;rw[HLN.out] at h_;exact h_),HSJ.out⟩
      case measure=>exact least_lt ⟨stj,i+1,rfl,Li.next HR.out hs HLP.out HX.out (by have h_:=HLI.out;rw[HLN.out] at h_;exact h_),HSJ.out⟩ (by rw[← HLE.out,HMI.out];omega)
   ·have hi:i=st.length:=by omega
    rw[show st.length - i=0 by omega] at hq;have HQ:=Ya hq;clear hq hql hsep;go_wp2_with (first|(go_at_call 102;refine(que_len gq A R fr 0 n0 _ HQ.out).mono ?_;rintro e_ w_ ⟨rfl,hw_⟩;subst hw_)|fail);rw[Exit.noGoto_ret];go_ret2;have hg:=GD.out;exact⟨gd,gb,st,rfl,hg.2.2.2.1,hg.2.2.2.2,hg.2.2.1,HSM.out.D,HSM.out.B,HSM.out.below,HLP.out.seen hi⟩
end H
namespace H
open P
def revM (M:Nat→S79) (N i x:Nat):S79:=if x<i∨N - i≤x then M (N - 1 - x) else M x
theorem revM_step (M:Nat→S79) (N i j:Nat) (h:i+j+1=N) (hij:i<j) (x:Nat) (hx:x<N):revM M N (i+1) x=upd (upd (revM M N i) i (revM M N i j)) j (revM M N i i) x:=by
 unfold upd revM;by_cases e1:x=j
 ·subst e1
  rw[Yx (by omega),Yx rfl,Yy (by omega)];congr 1;omega
 ·rw[Yy e1]
  by_cases e2:x=i
  ·subst e2
   rw[Yx (by omega),Yx rfl,Yy (by omega)];congr 1;omega
  ·rw[Yy e2]
   by_cases e3:x<i∨N - i≤x
   ·rw[Yx (by omega),Yx e3]
   ·rw[Yy (by omega),Yy e3]
set_option maxHeartbeats 2000000 in
set_option maxRecDepth 100000 in
theorem reverse_calls (g N cap:Nat) (M:Nat→S79) (w:World) (h:Arr w g N M) (hN0:0<N) (hN:N≤1000000):
  Calls Try.prog 88 #[.slice (some ⟨g,0,none⟩) N cap] w fun e w'=>e= .returned (.tuple #[])∧Arr w' g N (fun x=>M (N - 1 - x))∧Fr w w' g:=by
 have HA:=Ya h;have p0:(0:Int)<(N:Int):=by omega
 have p1:(N:Int)≤1000000:=by omega
 clear h;go_enter Try.func88,Try.ntmps88;go_wp2_with fail;go_loopw [2,3] (fun v2 v3 w'=> ∃ i j:Nat,i+j+1=N∧v2= .int .i64 i∧v3= .int .i64 j∧i≤j+1∧Aside0 (Arr w' g N (revM M N i))∧Aside0 (Fr w w' g)) (fun v2 _ _=>N - (intOf v2).toNat)
 case atStart=>exact⟨0,N - 1,by omega,rfl,by first|go_num|(congr 1;omega),by omega,⟨HA.out.congr (fun x hx=>by unfold revM;rw[Yy (by omega)])⟩,⟨grow_refl w g⟩⟩
 case round=>
  obtain⟨i,j,hij,rfl,rfl,hle,HR,HF⟩:=hrel;by_cases hlt:i<j
  ·have e1:decide ((i:Int)<(j:Int))=true:=Yv (by omega)
   have q0:(0:Int)≤(i:Int):=by omega
   have q1:(i:Int)<(N:Int):=by omega
   have q2:(0:Int)≤(j:Int):=by omega
   have q3:(j:Int)<(N:Int):=by omega
   have q4:(1:Int)≤(j:Int):=by omega
   have a0:=HR.out.cell0 (x:=i) (by omega);have a1:=HR.out.cell1 (x:=i) (by omega);have b0:=HR.out.cell0 (x:=j) (by omega);have b1:=HR.out.cell1 (x:=j) (by omega);have f0:=HR.out.free (i * 2);have f1:=HR.out.free (i * 2+1);have f2:=HR.out.free (j * 2);have f3:=HR.out.free (j * 2+1);have n1:i * 2≠j * 2:=by omega
   have n2:i * 2≠j * 2+1:=by omega
   have n3:i * 2+1≠j * 2:=by omega
   have n4:i≠j:=by omega
   have HA2:=Ya ((((HR.out.put (x:=i) (by omega) (revM M N i j)).put (x:=j) (by omega) (revM M N i i)).congr (fun x hx=>revM_step M N i j hij hlt x hx)).drew);have HF2:Aside0 (Fr w ((((((wr.setCell ⟨g,i * 2,none⟩ (.int .i64 (revM M N i j).f0)).setCell ⟨g,i * 2+1,none⟩ (.bool (revM M N i j).f1)).setCell ⟨g,j * 2,none⟩ (.int .i64 (revM M N i i).f0)).setCell ⟨g,j * 2+1,none⟩ (.bool (revM M N i i).f1)).drew)) g):=⟨grow_drew (grow_set (grow_set (grow_set (grow_set HF.out _ _) _ _) _ _) _ _)⟩;clear HR HF;generalize revM M N i i=si at *;generalize revM M N i j=sj at *;go_wp2_with fail;go_region;clear a0 a1 b0 b1 f0 f1 f2 f3 n1 n2 n3 n4;generalize ((((wr.setCell ⟨g,i * 2,none⟩ (.int .i64 sj.f0)).setCell ⟨g,i * 2+1,none⟩ (.bool sj.f1)).setCell ⟨g,j * 2,none⟩ (.int .i64 si.f0)).setCell ⟨g,j * 2+1,none⟩ (.bool si.f1)).drew=w9 at HA2 HF2 ⊢;go_wp2_with fail;go_roundw
   case rel=>exact⟨i+1,j - 1,by omega,by go_num,by first|go_num|(congr 1;omega),by omega,HA2,HF2⟩
   case measure=>simp[intOf]<;>omega
  ·have e1:decide ((i:Int)<(j:Int))=false:=Yw (by omega)
   go_wp2_with fail;refine bodyPost_end (results_none rfl _ _ _) rfl ⟨rfl,HR.out.congr (fun x hx=> ?_),HF.out⟩;unfold revM;by_cases e3:x<i∨N - i≤x
   ·rw[Yx e3]
   ·rw[Yy e3]
    congr 1;omega
theorem map_rev (xs:List S79) (z:S79):(List.range xs.length).map (fun x=>xs.getD (xs.length - 1 - x) z)=xs.reverse:=by
 apply List.ext_getElem (by simp);intro j h1 h2;have hj:j<xs.length:=by simpa using h2
 rw[List.getElem_map,List.getElem_range,List.getElem_reverse,List.getD_eq_getElem?_getD,List.getElem?_eq_getElem (by omega)];rfl
theorem reverse_row (base:Nat) (ok:Nat→Prop) (v:Value) (xs:List S79) (w:World) (h:Kd.R k79 79 w base ok v xs) (hp:0<xs.length) (hl:xs.length≤1000000):
  Calls Try.prog 88 #[v] w fun e w'=>e= .returned (.tuple #[])∧Kd.R k79 79 w' base ok v xs.reverse∧w.grownBy w' v.ownBlock:=by
 obtain⟨g,cap,rfl,hb,hlt,_⟩:=Kd.R_form h hp;refine(reverse_calls g xs.length cap _ w (arr_of_R h hp) hp hl).mono ?_;rintro e w' ⟨rfl,ha,hf⟩;have hr:=R_of_arr (ok':=ok) h rfl hp ha hf (h.1 g rfl);rw[map_rev] at hr;exact⟨rfl,hr,hf.1⟩
end H
namespace H
open P
attribute [local irreducible] wpQuiet
theorem fromS_f {l:List S50} {F:List Int} {n:Nat} (hr:Right l F n) {s:S79} (hs:StepOf l s) (a:Int) (b:Bool):static_Flowing_From.f a b l F s.f0 s.f1=some (stFrom l s):=by
 obtain⟨i,h1,h2⟩:=hs;unfold static_Flowing_From.f stFrom eFrom eTo;rw[h2];cases s.f1<;>simp[h1]
theorem bOf_mem {n:Nat} {st:List (Fd S79)} (h:(nodes st).Nodup) {x:Fd S79} (hx:x∈st) (z d:S79) (hv:x.v<n):(bOf z n st).getD x.v d=x.by_:=by
 rw[bOf_get z st d hv,fnd_of h hx]
theorem back_step {l:List S50} {F:List Int} {s:Nat} {st:List (Fd S79)} (h:Fds (frP l) (toP l) (esP l F) s st) {x:Fd S79} (hx:x∈st) (hne:x.v≠s):
  ∃ y,y∈st∧x.by_∈esP l F y.v∧x.lv=y.lv+1∧frP l x.by_=y.v∧backL (frP l) st s x.lv x.v=x.by_::backL (frP l) st s y.lv y.v:=by
 rcases h.mem_lv hx with ⟨h1,_⟩|⟨_,_,y,hy,h4,h5⟩
 ·exact absurd h1 hne
 ·refine⟨y,hy,h4,h5,esP_fr _ _ h4,?_⟩
  rw[h5];rw[backL,Yy hne,fnd_of h.nodup hx];show x.by_::_=_;rw[esP_fr _ _ h4]
theorem back_end {fr:S79→Nat} {st:List (Fd S79)} {s k:Nat} :backL fr st s k s=[]:=by
 cases k with
 |zero=>rfl
 |succ k=>rw[backL,Yx rfl]
theorem way_of {l:List S50} {F:List Int} {n s:Nat} {st:List (Fd S79)} (hr:Right l F n) (hs:s<n) (h:Fds (frP l) (toP l) (esP l F) s st) (hp: ∃ r,bfP l F n s=st ++ r) {x:Fd S79} (hx:x∈st):wayP l F n s x.v=(backL (frP l) st s x.lv x.v).reverse:=by
 obtain⟨r,hr1⟩:=hp;unfold wayP;rw[Yx (by rw[hr1,nodes_app];exact List.mem_append_left _ (List.mem_map_of_mem hx))];unfold wayL;rw[hr1,backL_more h esP_fr r x.lv hx (Nat.le_refl _) (by rw[List.length_append];have:=lv_lt h hx;omega)]
set_option maxHeartbeats 2000000 in
set_option maxRecDepth 100000 in
theorem way_calls (n0:Nat) (Zc:Bool) (A2:Option Addr) (c2:Nat) (l:List S50) (A3:Option Addr) (c3:Nat) (F:List Int) (A4:Option Addr) (c4:Nat) (s t:Nat) (w:World)
  (hR:Right l F n0) (hs:s<n0) (ht:t<n0) (hts:s≠t) (hc2:l.length≤c2) (hc3:F.length≤c3) (h2:Kd.C k50 w A2 l.length l) (h3:Kd.C (Kd.int .i64) w A3 F.length F) (h4:(Kd.slice 79 k79).C w A4 n0 (rowsAt l n0 n0)):
  Calls Try.prog 75 #[.agg #[.int .i64 n0, .bool Zc, .slice A2 l.length c2, .slice A3 F.length c3, .slice A4 n0 c4], .int .i64 (s:Int), .int .i64 (t:Int)] w fun e w'=> ∃ v:Value,e= .returned (.tuple #[v, .bool (decide (t∈nodes (bfP l F n0 s)))])∧Kd.R k79 79 w' w.heap.size (fun _=>True) v (wayP l F n0 s t)∧Below w.heap.size w w':=by
 have hu118:=Try.underlying107;have hu115:=Try.underlying104;have HR:=Ya hR;have HC2:=Ya hc2;have HC3:=Ya hc3;have H2:=Ya h2;have H3:=Ya h3;have H4:=Ya h4;have HB:=Ya (Yo w.heap.size w);have hn50:=hR.fifty;have pt:(0:Int)≤(t:Int):=by omega
 have qt:(t:Int)<(n0:Int):=by omega
 clear hR h2 h3 h4 hc2 hc3;go_enter Try.func75,Try.ntmps75;go_upto_region 2 with (first|((with_reducible refine gate_dst (N:=3) rfl ?_);refine Yz ?hg (N:=3) ?hd (cs:= #[.int .i64 n0, .bool Zc, .slice A2 l.length c2, .slice A3 F.length c3, .slice A4 n0 c4]) (t:=107) ?hr ?_;(case hd=>rfl);(case hg=>rfl);(case hr=>first|(go_simp;done)|(go_simp;rfl));intro g3 hg w5 Zg hb;have n0_:=Ya (Yk HB.out hb);have B3:=Ya Zg;clear HB;have HB:=n0_;have GE3:Aside0 (w.heap.size≤g3):=⟨Nat.le_of_eq hg.symm⟩;clear n0_ hb Zg hg;have c0:w5.cell? ⟨g3,0,none⟩=some (.int .i64 n0):=(Yc B3.out 0).trans rfl;have c1:w5.cell? ⟨g3,1,none⟩=some (.bool Zc):=(Yc B3.out 1).trans rfl;have c2_:w5.cell? ⟨g3,2,none⟩=some (.slice A2 l.length c2):=(Yc B3.out 2).trans rfl;have c3_:w5.cell? ⟨g3,3,none⟩=some (.slice A3 F.length c3):=(Yc B3.out 3).trans rfl;have c4_:w5.cell? ⟨g3,4,none⟩=some (.slice A4 n0 c4):=(Yc B3.out 4).trans rfl)|(go_at_call 91;refine(seek_calls n0 Zc A2 c2 l A3 c3 F A4 c4 s (t:Int) _ HR.out hs (by omega) HC2.out HC3.out (Yt H2.out HB.out) (Yt H3.out HB.out) (Yt H4.out HB.out)).mono ?_;rintro e_ w6 ⟨gd,gb,st,rfl,hg1,hg2,hg3,hd,hs_,hb,hsn⟩;have HD:=Ya hd;have HS:=Ya hs_;have HSN:=Ya hsn;have HG:Aside0 (g3≠gd∧g3≠gb∧gd≠gb∧w.heap.size≤gd∧w.heap.size≤gb):=⟨by have:=blk_lt B3.out;have:=HB.out.size;omega⟩;have m0_:=Ya (Yk HB.out hb);have m1_:=Ya (Yn B3.out hb);clear HB B3 hd hs_ hb hsn hg1 hg2 hg3 c0 c1 c2_ c3_ c4_;have HB:=m0_;have B3:=m1_;clear m0_ m1_)|fail)
 obtain⟨y,hy⟩: ∃ y_,y_=(dOf n0 st).getD t 0:=⟨_,rfl⟩;have hcy:w6.cell? ⟨gd,t,none⟩=some (.int .i64 y):=by rw[hy];exact HD.out.cell (by rw[dOf_len];exact ht)
 have hneg:=dOf_neg st 0 ht;rw[← hy] at hneg;clear hy;by_cases hmem:t∈nodes st
 ·have ey:decide (y<0)=false:=Yw (fun h=>hneg.1 h hmem)
  obtain⟨x0,hx0,hxt⟩:=List.mem_map.1 hmem;clear hneg hmem;have hstn:=fds_len HSN.out.fds (esP_to HR.out) hs;have HX0:=Ya hx0;have HXT:=Ya hxt;clear hx0 hxt;go_wp2_with fail;clear hcy HD;have m0_:=Ya (Ye HB.out (.cells #[] 79));have m1_:=Ya (HS.out.below (Ye (Yo _ _) (.cells #[] 79)));have m2_:=Ya (Yn B3.out (Ye (Yo _ _) (.cells #[] 79)));have HO:Aside0 (Kd.R k79 79 (w6.alloc (.cells #[] 79)) w.heap.size (fun k=>k≠gb∧k≠g3) (.slice (some ⟨w6.heap.size,0,none⟩) 0 0) []):=⟨IsS.R (B:=[]) (heap_alloc_new w6 _) (by simp) HB.out.size ⟨by have:=HS.out.lt;omega,by have:=blk_lt B3.out;omega⟩⟩;clear HB HS B3;have HB:=m0_;have HS:=m1_;have B3:=m2_;clear m0_ m1_ m2_;generalize w6.alloc (.cells #[] 79)=w7 at *;generalize Value.slice (some ⟨w6.heap.size,0,none⟩) 0 0=v0 at *;go_loopw [10,11] (fun v10 v11 w'=> ∃ (x:Fd S79) (O:List S79),v11= .int .i64 x.v∧x∈st∧Aside0 (O ++ backL (frP l) st s x.lv x.v=backL (frP l) st s x0.lv x0.v)∧O.length+x.lv≤50∧Aside0 (Kd.R k79 79 w' w.heap.size (fun k=>k≠gb∧k≠g3) v10 O)∧Aside0 (IsS w' gb (bOf z79 n0 st))∧Aside0 (w'.heap[g3]? =some (.cells #[.int .i64 n0, .bool Zc, .slice A2 l.length c2, .slice A3 F.length c3, .slice A4 n0 c4] 107 (0,0)))∧Aside0 (Below w.heap.size w w')) (fun _ v11 _=>((dOf n0 st).getD (intOf v11).toNat 0).toNat)
  case atStart=>exact⟨x0,[],by rw[HXT.out],HX0.out,⟨rfl⟩,by have:=lv_lt HSN.out.fds HX0.out;show 0+_≤50;omega,HO,HS,B3,HB⟩
  case round=>
   clear HO HS B3 HB;obtain⟨x,O,rfl,hx,HBK,hlen,HO,HS,B3,HB⟩:=hrel;have hxn:x.v<n0:=fds_lt HSN.out.fds (esP_to HR.out) hs _ (List.mem_map_of_mem hx);by_cases hxs:x.v=s
   ·have e1:((x.v:Int) != (s:Int))=false:=by rw[hxs];simp
    have hO:O=backL (frP l) st s x0.lv x0.v:=by
     have h_:=HBK.out;rw[hxs,back_end,List.append_nil] at h_;exact h_
    have hlp:0<O.length:=by
     rw[hO,(backL_spec HSN.out.fds esP_fr x0.lv HX0.out (Nat.le_refl _)).1];rcases HSN.out.fds.mem_lv HX0.out with ⟨h1,_⟩|⟨_,_,_,_,_,h5⟩
     ·rw[HXT.out] at h1;exact absurd h1.symm hts
     ·omega
    have HWY:Aside0 (wayP l F n0 s t=O.reverse):=⟨by rw[← HXT.out,way_of HR.out hs HSN.out.fds HSN.out.pre HX0.out,hO]⟩;have HIN:Aside0 (t∈nodes (bfP l F n0 s)):=⟨by
     obtain⟨r,hr⟩:=HSN.out.pre;rw[hr,nodes_app, ← HXT.out];exact List.mem_append_left _ (List.mem_map_of_mem HX0.out)⟩
    have HOL:Aside0 (O.length≤50):=⟨by omega⟩;have HLP:=Ya hlp;clear hO hlp hlen hxs;go_wp2_with (first|(go_at_call 88;refine(reverse_row w.heap.size _ u10 O _ HO.out HLP.out (by have:=HOL.out;omega)).mono ?_;rintro e_ w9 ⟨rfl,hr,hg⟩;have m0_:=Ya hr;have m1_:=Ya (pw_below_grown HB.out _ HB.out.size hg (fun k hk=>Kd.R_base HO.out k hk));clear HO HB hr hg;have HO:=m0_;have HB:=m1_;clear m0_ m1_)|fail);go_ret2;exact⟨u10,by rw[Yv HIN.out];rfl,by rw[HWY.out];exact Kd.R_mono HO.out (fun _ _=>trivial),HB.out⟩
   ·have e1:((x.v:Int) != (s:Int))=true:=by rw[bne_iff_ne];omega
    obtain⟨z,hz,hze,hlv,hfz,hbk⟩:=back_step HSN.out.fds hx hxs;obtain⟨b0,b1⟩:=HS.out.cell z79 (j:=x.v) (by rw[bOf_len];exact hxn);rw[bOf_mem HSN.out.fds.nodup hx _ _ hxn] at b0 b1;have hso:StepOf l x.by_:=stL_of (mem_esP.1 hze).1;have hfr:stFrom l x.by_=(z.v:Int):=by have h_:=stFrom_in HR.out hso;unfold frP at hfz;omega
    have hfm:=fromS_f HR.out hso (n0:Int) Zc;rw[hfr] at hfm;obtain⟨e,hee⟩: ∃ e_,e_=x.by_:=⟨_,rfl⟩;rw[← hee] at b0 b1 hfm hbk;have HFM:=Ya hfm;have HEE:=Ya hee;have HBK2:Aside0 ((O ++ [e]) ++ backL (frP l) st s z.lv z.v=backL (frP l) st s x0.lv x0.v):=⟨by rw[← HBK.out,hbk,List.append_assoc];rfl⟩;have HZ:=Ya hz;have HLV:=Ya hlv;have hl2:(O ++ [e]).length+z.lv≤50:=by rw[List.length_append,List.length_singleton];omega
    have HL2:=Ya hl2;have hOl:O.length≤50:=by omega
    have hmz:((dOf n0 st).getD z.v 0).toNat<((dOf n0 st).getD x.v 0).toNat:=by
     rw[dOf_mem HSN.out.fds.nodup hz 0 (fds_lt HSN.out.fds (esP_to HR.out) hs _ (List.mem_map_of_mem hz)),dOf_mem HSN.out.fds.nodup hx 0 hxn];omega
    have HMZ:=Ya hmz;have px:(0:Int)≤(x.v:Int):=by omega
    have qx:(x.v:Int)<(n0:Int):=by omega
    clear hz hze hlv hfz hbk hso hfr hfm hee HBK hlen hl2 hmz;go_wp2_with (first|((with_reducible refine gate_builtin (b:= .append) (xs:= #[.tmp 36, .tmp 41]) rfl ?_);at_builtin;refine Kd.R_append k79 (w0:=w) w.heap.size rfl (.tmp 36) (.tmp 41) 67 79 (.agg #[(.int .i64 0),(.bool false)]) 16 rfl Try.underlying67 info79 rfl (by decide) (by omega) u10 O e [.int .i64 e.f0, .bool e.f1] (fun k=>k≠gb∧k≠g3) (fun _=>False) rfl rfl ?aP (fun _ hk=>hk.elim) ?aF ?aO ?aB ?aS ?aL ?_;(case aP=>exact k79_mkM _ _ _ e);(case aF=>exact(fun k hk=>⟨by have:=HS.out.lt;omega,by have:=blk_lt B3.out;omega⟩));(case aO=>exact HO.out);(case aB=>exact HB.out);(case aS=>exact HB.out.size);(case aL=>omega);intro v1 w9 ho hb hg hat;have m0_:=Ya ho;have m1_:=Ya hb;have m2_:=Ya (HS.out.same (hg.block gb HS.out.lt (fun h=>(HO.out.1 gb h.symm).1 rfl)));have m3_:=Ya ((hg.block g3 (blk_lt B3.out) (fun h=>(HO.out.1 g3 h.symm).2 rfl)).trans B3.out);clear HO HS B3 HB ho hb hg hat b0 b1;have HO:=m0_;have HB:=m1_;have HS:=m2_;have B3:=m3_;clear m0_ m1_ m2_ m3_)|fail);obtain⟨d0,d1⟩:=HS.out.cell z79 (j:=x.v) (by rw[bOf_len];exact hxn);rw[bOf_mem HSN.out.fds.nodup hx _ _ hxn, ← HEE.out] at d0 d1;have q0: ∀ p:BelowW w9,p.at_.cell? ⟨g3,0,none⟩=some (.int .i64 n0):=fun p=>p.cell ((Yc B3.out 0).trans rfl)
    have q1: ∀ p:BelowW w9,p.at_.cell? ⟨g3,1,none⟩=some (.bool Zc):=fun p=>p.cell ((Yc B3.out 1).trans rfl)
    have q2: ∀ p:BelowW w9,p.at_.cell? ⟨g3,2,none⟩=some (.slice A2 l.length c2):=fun p=>p.cell ((Yc B3.out 2).trans rfl)
    have q3: ∀ p:BelowW w9,p.at_.cell? ⟨g3,3,none⟩=some (.slice A3 F.length c3):=fun p=>p.cell ((Yc B3.out 3).trans rfl)
    have q4: ∀ p:BelowW w9,p.at_.cell? ⟨gb,x.v * 2,none⟩=some (.int .i64 e.f0):=fun p=>p.cell d0
    have q5: ∀ p:BelowW w9,p.at_.cell? ⟨gb,x.v * 2+1,none⟩=some (.bool e.f1):=fun p=>p.cell d1
    have HCA:Aside0 (∀ p:BelowW w9,Kd.C k50 p.at_ A2 l.length l):=⟨fun p=>Yt (Yt H2.out HB.out) p.below⟩;have HCF:Aside0 (∀ p:BelowW w9,Kd.C (Kd.int .i64) p.at_ A3 F.length F):=⟨fun p=>Yt (Yt H3.out HB.out) p.below⟩;clear d0 d1;refine wp_region_quiet_below (by kernel_rfl) (by kernel_rfl) ?_;(repeat(quiet_step ((first|(go_at_call 87;exact calls_below_of (static_Flowing_From.calls (n0:Int) Zc A2 c2 l A3 c3 F e.f0 e.f1 (z.v:Int) _ (HCA.out _) HC2.out (HCF.out _) HC3.out HFM.out))))));refine wpQuiet_nil ?_;intro wq hw';obtain⟨⟨wz,hbq⟩,hwq⟩:=hw';subst hwq;have m0_:=Ya (Ys HO.out hbq);have m1_:=Ya (HS.out.below hbq);have m2_:=Ya (Yn B3.out hbq);have m3_:=Ya (Yk HB.out hbq);clear HO HS B3 HB HCA HCF q0 q1 q2 q3 q4 q5 hbq;have HO:=m0_;have HS:=m1_;have B3:=m2_;have HB:=m3_;clear m0_ m1_ m2_ m3_;go_wp2_with fail;go_roundw
    case rel=>exact⟨z,O ++ [e],rfl,HZ.out,HBK2,HL2.out,HO,HS,B3,HB⟩
    case measure=>have h_:=HMZ.out;simpa [intOf] using h_
 ·have ey:decide (y<0)=true:=Yv (hneg.2 hmem)
  have hfull:t ∉ nodes (bfP l F n0 s):=by
   rcases HSN.out.hit with h|⟨tn,h1,h2⟩
   ·rw[← h];exact hmem
   ·have:tn=t:=by omega
    subst this;exact absurd h2 hmem
  have HFU:=Ya hfull;clear hneg hmem hfull;go_wp2_with fail;go_ret2;refine⟨.slice none 0 0,by rw[Yw HFU.out];rfl,?_,HB.out⟩;unfold wayP;rw[Yy HFU.out];exact Kd.R_nil _ _ _ _ _
end H
namespace H
open P
set_option maxHeartbeats 1000000 in
set_option maxRecDepth 100000 in
theorem insertion_nil (A:Option Addr) (cap:Nat) (f:Value) (w:World):
  Calls Try.prog 104 #[.slice A 0 cap, .int .i64 0, .int .i64 0,f] w fun e w'=>e= .returned (.tuple #[])∧w'=w:=by
 go_enter Try.func104,Try.ntmps104;go_wp2;go_loopw [8] (fun i wr=>i= .int .i64 1∧Aside0 (wr=w)) (fun i _=>0)
 case atStart=>exact⟨by go_num,⟨rfl⟩⟩
 case round=>
  obtain⟨rfl,HW⟩:=hrel;go_wp2;go_end0;exact⟨rfl,HW.out⟩
set_option maxHeartbeats 1000000 in
set_option maxRecDepth 100000 in
theorem stable_nil (A:Option Addr) (cap:Nat) (f:Value) (w:World):
  Calls Try.prog 98 #[.slice A 0 cap, .int .i64 0,f] w fun e w'=>e= .returned (.tuple #[])∧w'=w:=by
 go_enter Try.func98,Try.ntmps98;go_wp2_with fail;go_loopw [7,8] (fun va vb wr=>va= .int .i64 0∧vb= .int .i64 20∧Aside0 (wr=w)) (fun va _ _=>0)
 case atStart=>exact⟨by go_num,by go_num,⟨rfl⟩⟩
 case round=>
  obtain⟨rfl,rfl,HW⟩:=hrel;go_wp2_with fail;refine(insertion_nil A cap f _).mono ?_;rintro e1 w1 ⟨rfl,rfl⟩;go_wp2_with fail;go_loopw [6] (fun vs wr=>vs= .int .i64 20∧Aside0 (wr=w)) (fun vs _=>0)
  case atStart=>exact⟨by go_num,HW⟩
  case round=>
   clear HW;obtain⟨rfl,HW⟩:=hrel;go_wp2_with fail;go_end0;exact⟨rfl,HW.out⟩
theorem sortStable_nil (A:Option Addr) (cap:Nat) (f:Value) (w:World):
  Calls Try.prog 85 #[.slice A 0 cap,f] w fun e w'=>e= .returned (.tuple #[])∧w'=w:=by
 go_enter Try.func85,Try.ntmps85;go_wp2_with fail;refine(stable_nil A cap f w).mono ?_;rintro e1 w1 ⟨rfl,rfl⟩;go_wp2_with fail;go_end0;exact⟨rfl,rfl⟩
end H
namespace H
open P
theorem stL_nil {l:List S50} {n:Nat} {v:Int} (hv0:0≤v) (hv:v<n) (hE:ends l n) (h:stepsU l n v=[]):stL l v l.length=[]:=by
 refine List.eq_nil_iff_forall_not_mem.2 fun s hs=> ?_
 have:=(mem_stepsU l n v hv0 hv hE s).2 ((mem_stL l v l.length s).1 hs);rw[h] at this;cases this
theorem row_step (P:List S79) (L:List Int) (b:Bool) (j:Nat) (hj:j<L.length):P ++ (L.take (j+1)).map (fun i=>(⟨i,b⟩:S79))=(P ++ (L.take j).map (fun i=>(⟨i,b⟩:S79))) ++ [⟨rd L (j:Int),b⟩]:=by
 have e:L.take (j+1)=L.take j ++ [rd L (j:Int)]:=by
  rw[List.take_add_one,List.getElem?_eq_getElem hj];show _ ++ [L[j]]=_ ++ [L.getD (j:Int).toNat 0];rw[Int.toNat_natCast,List.getD_eq_getElem?_getD,List.getElem?_eq_getElem hj];rfl
 rw[e,List.map_append,List.append_assoc];rfl
theorem sort_row {w:World} {base go n co k N:Nat} {l:List S50} {X:List (List S79)} {oki:Nat→Prop} {A:Option Addr} {cr:Nat} {RW:List S79}
  (hH:Kd.H (Kd.slice 79 k79) 67 w base (fun _=>True) (.slice (some ⟨go,0,none⟩) n co) X (k:Int) oki [.slice A RW.length cr])
  (hR:Kd.R k79 79 w base oki (.slice A RW.length cr) RW) (hRW:RW=stepsU l N (k:Int)) (hk:k<N) (hE:ends l N) (hl:l.length≤1000000) (hlen:RW.length≤1000000):
  Calls Try.prog 85 #[.slice A RW.length cr, .func (.func 86) #[] #[]] w fun e w'=>e= .returned (.tuple #[])∧
   ∃ v:Value,w.grownBy w' v.ownBlock∧(∀ g,v.ownBlock=some g→base≤g∧ ∃ cells,w.heap[g]? =some (.cells cells 79 (0,0)))∧Kd.S (Kd.slice 79 k79) 67 w' base (fun _=>True) (.slice (some ⟨go,0,none⟩) n co) (X.set k (stL l k l.length)):=by
 have hk0:0≤(k:Int):=by omega
 have hkn:(k:Int)<N:=by omega
 by_cases hp:0<RW.length
 ·obtain⟨g,cap,e,hb,_,cells,hcl⟩:=Kd.R_form hR hp
  injection e with e1 _ e3
  subst e1;subst e3;have hA:=arr_of_R hR hp;refine(sortStable_calls g RW.length cr (fun i=>RW.getD i z79) w hA hlen ?_ ?_).mono ?_
  ·rw[hRW];exact stab_of_list (stab_stepsU l N (k:Int) hk0 hkn hE)
  ·rw[hRW];exact small_steps hk0 hkn hE hl
  ·rintro e w' ⟨rfl,⟨K,hK,hs⟩,hf⟩
   refine⟨rfl, .slice (some ⟨g,0,none⟩) RW.length cr,hf.1,fun g' hg'=> ?_,?_⟩
   ·have:g=g':=by simpa [Value.ownBlock] using hg'
    subst this;exact⟨hb,cells,hcl⟩
   ·have hoki:oki g:=hR.1 g rfl
    have hR':=R_of_arr hR rfl hp hK hf hoki;have hst:(List.range RW.length).map K=stL l k l.length:=by rw[hRW] at hs ⊢;exact sorted_is hk0 hkn hE hs
    rw[hst] at hR';have hS:=Kd.H_back (Kd.H_grown hH hf.1 (fun q hq=>by injection hq with hq;subst hq;exact hoki)) (x':=stL l k l.length) ⟨_,rfl,hR'⟩ (fun _ hk=>hk);rw[Int.toNat_natCast] at hS;exact hS
 ·have h0:RW=[]:=List.eq_nil_of_length_eq_zero (by omega)
  have hst:stL l k l.length=[]:=stL_nil hk0 hkn hE (by rw[← hRW];exact h0);subst h0;refine(sortStable_nil A cr _ w).mono ?_;rintro e w' ⟨rfl,rfl⟩;refine⟨rfl, .slice none 0 0,World.grownBy.refl _ _,fun g' hg'=>by simp[Value.ownBlock] at hg',?_⟩;rw[hst];have hS:=Kd.H_back hH (x':=([]:List S79)) ⟨_,rfl,hR⟩ (fun _ hk=>hk);rw[Int.toNat_natCast] at hS;exact hS
end H
namespace H
open Go.RowKit Go.Proofs.YtoedkglggapggaaW.PrintWords Go.Proofs.YtoedkglggapggaaW.PrintLast Go.Proofs.YtoedkglggapggaaW.PrintMore P
theorem infoRowS:(Try.prog.info? 67).map (fun i=>(i.zero,i.size,i.bytes))=some (some (.slice none 0 0),1,24):=by kernel_rfl
set_option maxHeartbeats 2000000 in
set_option maxRecDepth 100000 in
theorem at_calls (n0:Nat) (a0_1:Bool) (A0_2:Option Addr) (c0_2:Nat) (l0_2:List S50) (A1:Option Addr) (c1 n1:Nat) (w:World) (hr0_2:Kd.C k50 w A0_2 l0_2.length l0_2) (hc0_2:l0_2.length≤c0_2) (h0:0≤(n0:Int)) (h1:(n0:Int)≤1000000) (hl:l0_2.length≤500000) (hE0: ∀ k:Nat,k<l0_2.length→0≤eFrom (rd_T50 l0_2 k)∧eFrom (rd_T50 l0_2 k)<(n0:Int)) (hE1: ∀ k:Nat,k<l0_2.length→0≤eTo (rd_T50 l0_2 k)∧eTo (rd_T50 l0_2 k)<(n0:Int)):
  Calls Try.prog 68 #[.agg #[.int .i64 (n0:Int), .bool a0_1, .slice A0_2 l0_2.length c0_2], .slice A1 n1 c1] w fun e w'=> ∃ v0_:Value,e= .returned (.agg #[.int .i64 (n0:Int), .bool a0_1, .slice A0_2 l0_2.length c0_2, .slice A1 n1 c1,v0_])∧Kd.S (Kd.slice 79 k79) 67 w' w.heap.size (fun _=>True) v0_ (rowsAt l0_2 n0 n0)∧Below w.heap.size w w':=by
 have hu24:=Try.underlying24;have hu118:=Try.underlying107;have HR0_2:=Aside0.mk hr0_2;have HC0_2:=Aside0.mk hc0_2;have HH0:=Aside0.mk h0;have HH1:=Aside0.mk h1;have HE0:=Aside0.mk hE0;have HE1:=Aside0.mk hE1;have HR0:=Aside0.mk hr0_2;clear hr0_2 hc0_2 h0 h1 hE0 hE1;have HB:=Aside0.mk (Below.refl w.heap.size w);go_enter Try.func68,Try.ntmps68;go_wp2_with (first|((with_reducible refine gate_dst (N:=2) rfl ?_);refine box_event ?hg (N:=2) ?hd (cs:= #[.int .i64 (n0:Int), .bool a0_1, .slice A0_2 l0_2.length c0_2]) (t:=24) ?hr ?_;(case hd=>rfl);(case hg=>rfl);(case hr=>first|(go_simp;done)|(go_simp;rfl));intro gb111 hg w4 hbox hb;have n0_:=Aside0.mk (below_step (by repeat(first|(with_reducible first|exact HB.out|apply below_alloc|apply pw_below_drewN|apply below_drew1)|exact HB.out)) hb);have n1_:=Aside0.mk (hbox);have n2_:=Aside0.mk (Kd.C_below HR0_2.out hb);clear HB HR0_2;have HB:=n0_;have BK111:=n1_;have HR0_2:=n2_;clear n0_ n1_ n2_;clear hb hbox hg)|((with_reducible refine gate_dst (N:=4) rfl ?_);refine box_event ?hg (N:=4) ?hd (cs:= #[.int .i64 0, .bool false, .slice none 0 0, .slice none 0 0, .slice none 0 0]) (t:=107) ?hr ?_;(case hd=>rfl);(case hg=>rfl);(case hr=>first|(go_simp;done)|(go_simp;rfl));intro gb4 hg w5 hbox hb;have GE4:Aside0 (w.heap.size≤gb4):=⟨by rw[hg];exact HB.out.size⟩;have n0_:=Aside0.mk (below_step (by repeat(first|(with_reducible first|exact HB.out|apply below_alloc|apply pw_below_drewN|apply below_drew1)|exact HB.out)) hb);have n1_:=Aside0.mk (hbox);have n2_:=Aside0.mk (Kd.C_below HR0_2.out hb);have n3_:=Aside0.mk (blk_below BK111.out hb);clear HB HR0_2 BK111;have HB:=n0_;have BK4:=n1_;have HR0_2:=n2_;have BK111:=n3_;clear n0_ n1_ n2_ n3_;clear hb hbox hg)|fail);obtain⟨R0,hR0⟩: ∃ y_:List (List S79),y_=List.replicate (n0:Int).toNat []:=⟨_,rfl⟩;have NR0:=Aside0.mk hR0;clear hR0;refine start_ (n:=9) (S:=(fun w'=>w'.cell? ⟨gb111,0,none⟩=some (.int .i64 (n0:Int))∧w'.cell? ⟨gb111,1,none⟩=some (.bool a0_1)∧w'.cell? ⟨gb111,2,none⟩=some (.slice A0_2 l0_2.length c0_2))) (ds:=[]) #[false,false,false,false,false,false,false,false,false] (by kernel_rfl) rfl rfl ⟨(blk_cell BK111.out 0).trans rfl,(blk_cell BK111.out 1).trans rfl,(blk_cell BK111.out 2).trans rfl⟩ (fun hHeld=> ?_);have n0_:=Aside0.mk (below_drew HB.out);have n1_:Aside0 (w5.drew.heap[gb111]? =some (.cells #[.int .i64 (n0:Int), .bool a0_1, .slice A0_2 l0_2.length c0_2] 24 (0,0))):=⟨BK111.out⟩;have n2_:Aside0 (w5.drew.heap[gb4]? =some (.cells #[.int .i64 0, .bool false, .slice none 0 0, .slice none 0 0, .slice none 0 0] 107 (0,0))):=⟨BK4.out⟩;clear HB BK111 BK4;have HB:=n0_;have BK111:=n1_;have BK4:=n2_;clear n0_ n1_ n2_;generalize w5.drew=w6 at BK111 HB BK4 hHeld ⊢;refine pure_ (i:=1) (N:=some 14) (v:= ?_) (a':= ?_) #[false,true,false,false,false,false,false,false,false] rfl rfl (by kernel_rfl) (fun _ _ _ h=>h) (Or.inl ⟨by rfl,?_⟩) ?_ ?_
 rotate_left
 ·intro w'
  go_simp
  with_reducible rfl
 rotate_left
 ·simp only[Act.put,List.setIfInBounds_toArray,List.set_cons_zero,List.set_cons_succ,i64_w,i32_w]
  rfl
 refine pure_ (i:=3) (N:=some 16) (v:= ?_) (a':= ?_) #[false,true,false,true,false,false,false,false,false] rfl rfl (by kernel_rfl) (fun _ _ _ h=>h) (Or.inl ⟨by rfl,?_⟩) ?_ ?_
 rotate_left
 ·intro w'
  go_simp
  with_reducible rfl
 rotate_left
 ·simp only[Act.put,List.setIfInBounds_toArray,List.set_cons_zero,List.set_cons_succ,i64_w,i32_w]
  rfl
 refine take_ (i:=0) (N:=some 13) (v:= ?_) (a':= ?_) #[true,true,false,true,false,false,false,false,false] rfl rfl (by kernel_rfl) (fun _ _ _ h=>h) (Or.inl ⟨by rfl,?_⟩) hHeld ?_ ?_
 rotate_left
 ·rintro w' ⟨s0,s1,s2⟩
  go_simp
  with_reducible rfl
 rotate_left
 ·simp only[Act.put,List.setIfInBounds_toArray,List.set_cons_zero,List.set_cons_succ,i64_w,i32_w]
  rfl
 refine take_ (i:=4) (N:=some 17) (v:= ?_) (a':= ?_) #[true,true,false,true,true,false,false,false,false] rfl rfl (by kernel_rfl) (fun _ _ _ h=>h) (Or.inl ⟨by rfl,?_⟩) hHeld ?_ ?_
 rotate_left
 ·rintro w' ⟨s0,s1,s2⟩
  go_simp
  with_reducible rfl
 rotate_left
 ·simp only[Act.put,List.setIfInBounds_toArray,List.set_cons_zero,List.set_cons_succ,i64_w,i32_w]
  rfl
 refine pure_ (i:=2) (N:=some 15) (v:= ?_) (a':= ?_) #[true,true,true,true,true,false,false,false,false] rfl rfl (by kernel_rfl) (fun _ _ _ h=>h) (Or.inl ⟨by rfl,?_⟩) ?_ ?_
 rotate_left
 ·intro w'
  go_simp
  with_reducible rfl
 rotate_left
 ·simp only[Act.put,List.setIfInBounds_toArray,List.set_cons_zero,List.set_cons_succ,i64_w,i32_w]
  rfl
 refine join_ (σ:=Value × Nat) 1 #[true,true,true,true,true,true,true,true,false] (fun s_=>[(18,s_.1),(19, .agg #[.int .i64 (n0:Int), .bool a0_1, .slice A0_2 l0_2.length c0_2, .slice A1 n1 c1,s_.1]),(5, .pointer (some ⟨s_.2,0,none⟩))]) (fun s_ w'=>(w'.cell? ⟨gb111,0,none⟩=some (.int .i64 (n0:Int))∧w'.cell? ⟨gb111,1,none⟩=some (.bool a0_1)∧w'.cell? ⟨gb111,2,none⟩=some (.slice A0_2 l0_2.length c0_2))∧Kd.S (Kd.slice 79 k79) 67 w' w.heap.size (fun _=>True) s_.1 R0∧w'.heap[gb111]? =some (.cells #[.int .i64 (n0:Int), .bool a0_1, .slice A0_2 l0_2.length c0_2] 24 (0,0))∧w'.heap[s_.2]? =some (.cells #[.int .i64 0, .bool false, .slice none 0 0, .slice none 0 0, .slice none 0 0] 107 (0,0))∧w'.heap[gb4]? =some (.cells #[.int .i64 0, .bool false, .slice none 0 0, .slice none 0 0, .slice none 0 0] 107 (0,0))∧w.heap.size≤s_.2∧gb111≠s_.2∧gb4≠s_.2∧Below w.heap.size w w') ?_ ?_
 rotate_left
 ·intro hCont
  refine two_ (i:=5) (j:=7) (Ni:=some 18) (Nj:=some 5) #[true,true,true,true,true,true,false,false,false] #[true,true,true,true,true,false,false,true,false] rfl rfl rfl rfl (by kernel_rfl) (by decide) (by decide) (fun K hK=> ?_) (fun K hK=> ?_)
  ·skip
   refine Kd.S_make_step (Kd.slice 79 k79) _ 67 (by rfl) (N:=18) rfl 105 _ _ rfl (n0:Int) rfl rfl Try.underlying105 (.slice none 0 0) 24 infoRowS rfl (by decide) (by omega) [] (ok:=fun _=>True) (okp:=fun _=>True) ⟨_,rfl,Kd.R_nil _ _ _ _ _⟩ (fun _ hk=>hk) trivial HH0.out (by have:=HH1.out;omega) (Below.refl _ _) (Nat.le_refl _) ?_;intro v18 w7 ho hb _ _;rw[← NR0.out] at ho;obtain⟨Ao,co,eo⟩:=Kd.S_slice ho;subst eo;have n0_:=Aside0.mk (Kd.S_lower ho HB.out.size);have n1_:=Aside0.mk (blk_below BK111.out hb);have n2_:=Aside0.mk (blk_below BK4.out hb);have n3_:=Aside0.mk (below_step HB.out hb);clear BK111 BK4 HB ho hb;have HO:=n0_;have BK111:=n1_;have BK4:=n2_;have HB:=n3_;clear n0_ n1_ n2_ n3_;refine hK.out _ _ ⟨(blk_cell BK111.out 0).trans rfl,(blk_cell BK111.out 1).trans rfl,(blk_cell BK111.out 2).trans rfl⟩ (fun hHeld=> ?_);clear hK K;refine norm_ (a':= ?_) ?_ ?_
   rotate_left
   ·show Act.put _ (some 18) _=_
    simp only[Act.put,List.setIfInBounds_toArray,List.set_cons_zero,List.set_cons_succ,i64_w,i32_w];rfl
   refine pure_ (i:=6) (N:=some 19) (v:= ?_) (a':= ?_) #[true,true,true,true,true,true,true,false,false] rfl rfl (by kernel_rfl) (fun _ _ _ h=>h) (Or.inl ⟨by rfl,?_⟩) ?_ ?_
   rotate_left
   ·intro w'
    go_simp
    with_reducible rfl
   rotate_left
   ·simp only[Act.put,List.setIfInBounds_toArray,List.set_cons_zero,List.set_cons_succ,i64_w,i32_w]
    rfl
   refine one_ (i:=7) (N:=some 5) #[true,true,true,true,true,true,true,true,false] rfl rfl (by kernel_rfl) (by decide) (fun K hK=> ?_);refine box_step ?hg (N:=5) ?hd (cs:= #[.int .i64 0, .bool false, .slice none 0 0, .slice none 0 0, .slice none 0 0]) (t:=107) ?hr ?_;(case hd=>rfl);(case hg=>rfl);(case hr=>first|(go_simp;done)|(go_simp;rfl));intro gb5 hg w8 hbox hb;have n0_:=Aside0.mk hbox;have n1_:=Aside0.mk (blk_below BK111.out hb);have n2_:=Aside0.mk (blk_below BK4.out hb);have n3_:=Aside0.mk (below_step HB.out hb);have n5_:Aside0 (w.heap.size≤gb5):=⟨by rw[hg];exact HB.out.size⟩;have n6_:Aside0 (gb111≠gb5):=⟨by rw[hg];exact Nat.ne_of_lt (blk_lt BK111.out)⟩;have n7_:Aside0 (gb4≠gb5):=⟨by rw[hg];exact Nat.ne_of_lt (blk_lt BK4.out)⟩;have n4_:=Aside0.mk (Kd.S_below HO.out hb);clear HO;have HO:=n4_;clear n4_;clear BK111 BK4 HB hbox hb hg;have BK5:=n0_;have BK111:=n1_;have BK4:=n2_;have HB:=n3_;have GE5:=n5_;have NB111:=n6_;have NB4:=n7_;clear n0_ n1_ n2_ n3_ n5_ n6_ n7_;refine hK.out _ _ ⟨(blk_cell BK111.out 0).trans rfl,(blk_cell BK111.out 1).trans rfl,(blk_cell BK111.out 2).trans rfl⟩ (fun hHeld=> ?_);clear hK K;refine norm_ (a':= ?_) ?_ ?_
   rotate_left
   ·show Act.put _ (some 5) _=_
    simp only[Act.put,List.setIfInBounds_toArray,List.set_cons_zero,List.set_cons_succ,i64_w,i32_w];rfl
   exact norm_ (by(simp only[putAll,Act.put,List.setIfInBounds_toArray,List.set_cons_zero,List.set_cons_succ])<;>rfl) (hCont (.slice Ao R0.length co,gb5) _ ⟨hHeld,HO.out,BK111.out,BK5.out,BK4.out,GE5.out,NB111.out,NB4.out,HB.out⟩)
  ·skip
   refine box_step ?hg (N:=5) ?hd (cs:= #[.int .i64 0, .bool false, .slice none 0 0, .slice none 0 0, .slice none 0 0]) (t:=107) ?hr ?_;(case hd=>rfl);(case hg=>rfl);(case hr=>first|(go_simp;done)|(go_simp;rfl));intro gb5 hg w7 hbox hb;have n0_:=Aside0.mk hbox;have n1_:=Aside0.mk (blk_below BK111.out hb);have n2_:=Aside0.mk (blk_below BK4.out hb);have n3_:=Aside0.mk (below_step HB.out hb);have n5_:Aside0 (w.heap.size≤gb5):=⟨by rw[hg];exact HB.out.size⟩;have n6_:Aside0 (gb111≠gb5):=⟨by rw[hg];exact Nat.ne_of_lt (blk_lt BK111.out)⟩;have n7_:Aside0 (gb4≠gb5):=⟨by rw[hg];exact Nat.ne_of_lt (blk_lt BK4.out)⟩;clear BK111 BK4 HB hbox hb hg;have BK5:=n0_;have BK111:=n1_;have BK4:=n2_;have HB:=n3_;have GE5:=n5_;have NB111:=n6_;have NB4:=n7_;clear n0_ n1_ n2_ n3_ n5_ n6_ n7_;refine hK.out _ _ ⟨(blk_cell BK111.out 0).trans rfl,(blk_cell BK111.out 1).trans rfl,(blk_cell BK111.out 2).trans rfl⟩ (fun hHeld=> ?_);clear hK K;refine norm_ (a':= ?_) ?_ ?_
   rotate_left
   ·show Act.put _ (some 5) _=_
    simp only[Act.put,List.setIfInBounds_toArray,List.set_cons_zero,List.set_cons_succ,i64_w,i32_w];rfl
   refine one_ (i:=5) (N:=some 18) #[true,true,true,true,true,true,false,true,false] rfl rfl (by kernel_rfl) (by decide) (fun K hK=> ?_);refine Kd.S_make_step (Kd.slice 79 k79) _ 67 (by rfl) (N:=18) rfl 105 _ _ rfl (n0:Int) rfl rfl Try.underlying105 (.slice none 0 0) 24 infoRowS rfl (by decide) (by omega) [] (ok:=fun _=>True) (okp:=fun _=>True) ⟨_,rfl,Kd.R_nil _ _ _ _ _⟩ (fun _ hk=>hk) trivial HH0.out (by have:=HH1.out;omega) (Below.refl _ _) (Nat.le_refl _) ?_;intro v18 w8 ho hb _ _;rw[← NR0.out] at ho;obtain⟨Ao,co,eo⟩:=Kd.S_slice ho;subst eo;have n0_:=Aside0.mk (Kd.S_lower ho HB.out.size);have n1_:=Aside0.mk (blk_below BK111.out hb);have n2_:=Aside0.mk (blk_below BK4.out hb);have n3_:=Aside0.mk (below_step HB.out hb);have n4_:=Aside0.mk (blk_below BK5.out hb);clear BK5;have BK5:=n4_;clear n4_;clear BK111 BK4 HB ho hb;have HO:=n0_;have BK111:=n1_;have BK4:=n2_;have HB:=n3_;clear n0_ n1_ n2_ n3_;refine hK.out _ _ ⟨(blk_cell BK111.out 0).trans rfl,(blk_cell BK111.out 1).trans rfl,(blk_cell BK111.out 2).trans rfl⟩ (fun hHeld=> ?_);clear hK K;refine norm_ (a':= ?_) ?_ ?_
   rotate_left
   ·show Act.put _ (some 18) _=_
    simp only[Act.put,List.setIfInBounds_toArray,List.set_cons_zero,List.set_cons_succ,i64_w,i32_w];rfl
   refine pure_ (i:=6) (N:=some 19) (v:= ?_) (a':= ?_) #[true,true,true,true,true,true,true,true,false] rfl rfl (by kernel_rfl) (fun _ _ _ h=>h) (Or.inl ⟨by rfl,?_⟩) ?_ ?_
   rotate_left
   ·intro w'
    go_simp
    with_reducible rfl
   rotate_left
   ·simp only[Act.put,List.setIfInBounds_toArray,List.set_cons_zero,List.set_cons_succ,i64_w,i32_w]
    rfl
   exact norm_ (by(simp only[putAll,Act.put,List.setIfInBounds_toArray,List.set_cons_zero,List.set_cons_succ])<;>rfl) (hCont (.slice Ao R0.length co,gb5) _ ⟨hHeld,HO.out,BK111.out,BK5.out,BK4.out,GE5.out,NB111.out,NB4.out,HB.out⟩)
 rintro⟨v18,gb5⟩ w9 ⟨hHeld,h0_,h1_,h2_,h3_,h4_,h5_,h6_,h7_⟩;clear BK111 BK4 HB;have HO:=Aside0.mk h0_;clear h0_;have BK111:=Aside0.mk h1_;clear h1_;have BK5:=Aside0.mk h2_;clear h2_;have BK4:=Aside0.mk h3_;clear h3_;have GE5:=Aside0.mk h4_;clear h4_;have NB111:=Aside0.mk h5_;clear h5_;have NB4:=Aside0.mk h6_;clear h6_;have HB:=Aside0.mk h7_;clear h7_;obtain⟨Ao,co,eo⟩:=Kd.S_slice HO.out;dsimp only at eo HO BK5 GE5 NB111 NB4;subst eo;refine norm_ (a':= ?_) ?_ ?_
 rotate_left
 ·simp only[putAll,Act.put,List.setIfInBounds_toArray,List.set_cons_zero,List.set_cons_succ]
  rfl
 refine one_ (i:=8) (N:=none) #[true,true,true,true,true,true,true,true,true] rfl rfl (by kernel_rfl) (by decide) (fun K hK=> ?_);have hs0:w9.cell? ⟨gb5,0,none⟩=some (.int .i64 0):=(blk_cell BK5.out 0).trans rfl;have hfs0:=blk_frozen BK5.out 0;have hs1:w9.cell? ⟨gb5,1,none⟩=some (.bool false):=(blk_cell BK5.out 1).trans rfl;have hfs1:=blk_frozen BK5.out 1;have hs2:w9.cell? ⟨gb5,2,none⟩=some (.slice none 0 0):=(blk_cell BK5.out 2).trans rfl;have hfs2:=blk_frozen BK5.out 2;have hs3:w9.cell? ⟨gb5,3,none⟩=some (.slice none 0 0):=(blk_cell BK5.out 3).trans rfl;have hfs3:=blk_frozen BK5.out 3;have hs4:w9.cell? ⟨gb5,4,none⟩=some (.slice none 0 0):=(blk_cell BK5.out 4).trans rfl;have hfs4:=blk_frozen BK5.out 4;have n0_:Aside0 ((((((w9.setCell ⟨gb5,0,none⟩ (.int .i64 (n0:Int))).setCell ⟨gb5,1,none⟩ (.bool a0_1)).setCell ⟨gb5,2,none⟩ (.slice A0_2 l0_2.length c0_2)).setCell ⟨gb5,3,none⟩ (.slice A1 n1 c1)).setCell ⟨gb5,4,none⟩ (.slice Ao R0.length co)).heap[gb5]? =some (.cells #[.int .i64 (n0:Int), .bool a0_1, .slice A0_2 l0_2.length c0_2, .slice A1 n1 c1, .slice Ao R0.length co] 107 (0,0))):=⟨by
  refine blk_put (cs:= #[.int .i64 (n0:Int), .bool a0_1, .slice A0_2 l0_2.length c0_2, .slice A1 n1 c1, .slice none 0 0]) ?_ 4 _ rfl;refine blk_put (cs:= #[.int .i64 (n0:Int), .bool a0_1, .slice A0_2 l0_2.length c0_2, .slice none 0 0, .slice none 0 0]) ?_ 3 _ rfl;refine blk_put (cs:= #[.int .i64 (n0:Int), .bool a0_1, .slice none 0 0, .slice none 0 0, .slice none 0 0]) ?_ 2 _ rfl;refine blk_put (cs:= #[.int .i64 (n0:Int), .bool false, .slice none 0 0, .slice none 0 0, .slice none 0 0]) ?_ 1 _ rfl;refine blk_put (cs:= #[.int .i64 0, .bool false, .slice none 0 0, .slice none 0 0, .slice none 0 0]) ?_ 0 _ rfl;exact BK5.out⟩
 have n1_:Aside0 ((((((w9.setCell ⟨gb5,0,none⟩ (.int .i64 (n0:Int))).setCell ⟨gb5,1,none⟩ (.bool a0_1)).setCell ⟨gb5,2,none⟩ (.slice A0_2 l0_2.length c0_2)).setCell ⟨gb5,3,none⟩ (.slice A1 n1 c1)).setCell ⟨gb5,4,none⟩ (.slice Ao R0.length co)).heap[gb111]? =some (.cells #[.int .i64 (n0:Int), .bool a0_1, .slice A0_2 l0_2.length c0_2] 24 (0,0))):=⟨by
  refine blk_far ?_ NB111.out _;refine blk_far ?_ NB111.out _;refine blk_far ?_ NB111.out _;refine blk_far ?_ NB111.out _;refine blk_far ?_ NB111.out _;exact BK111.out⟩
 have n2_:Aside0 ((((((w9.setCell ⟨gb5,0,none⟩ (.int .i64 (n0:Int))).setCell ⟨gb5,1,none⟩ (.bool a0_1)).setCell ⟨gb5,2,none⟩ (.slice A0_2 l0_2.length c0_2)).setCell ⟨gb5,3,none⟩ (.slice A1 n1 c1)).setCell ⟨gb5,4,none⟩ (.slice Ao R0.length co)).heap[gb4]? =some (.cells #[.int .i64 0, .bool false, .slice none 0 0, .slice none 0 0, .slice none 0 0] 107 (0,0))):=⟨by
  refine blk_far ?_ NB4.out _;refine blk_far ?_ NB4.out _;refine blk_far ?_ NB4.out _;refine blk_far ?_ NB4.out _;refine blk_far ?_ NB4.out _;exact BK4.out⟩
 have n3_:Aside0 (Kd.S (Kd.slice 79 k79) 67 (((((w9.setCell ⟨gb5,0,none⟩ (.int .i64 (n0:Int))).setCell ⟨gb5,1,none⟩ (.bool a0_1)).setCell ⟨gb5,2,none⟩ (.slice A0_2 l0_2.length c0_2)).setCell ⟨gb5,3,none⟩ (.slice A1 n1 c1)).setCell ⟨gb5,4,none⟩ (.slice Ao R0.length co)) w.heap.size (fun _=>True) (.slice Ao R0.length co) R0):=⟨Kd.S_mono (Kd.S_far (p:=⟨gb5,4,none⟩) (Kd.S_far (p:=⟨gb5,3,none⟩) (Kd.S_far (p:=⟨gb5,2,none⟩) (Kd.S_far (p:=⟨gb5,1,none⟩) (Kd.S_far (p:=⟨gb5,0,none⟩) (Kd.S_types HO.out BK5.out (by decide)) (fun _ hk=>hk.2) (.int .i64 (n0:Int))) (fun _ hk=>hk.2) (.bool a0_1)) (fun _ hk=>hk.2) (.slice A0_2 l0_2.length c0_2)) (fun _ hk=>hk.2) (.slice A1 n1 c1)) (fun _ hk=>hk.2) (.slice Ao R0.length co)) (fun _ _=>trivial)⟩;have n4_:Aside0 (Below w.heap.size w (((((w9.setCell ⟨gb5,0,none⟩ (.int .i64 (n0:Int))).setCell ⟨gb5,1,none⟩ (.bool a0_1)).setCell ⟨gb5,2,none⟩ (.slice A0_2 l0_2.length c0_2)).setCell ⟨gb5,3,none⟩ (.slice A1 n1 c1)).setCell ⟨gb5,4,none⟩ (.slice Ao R0.length co))):=⟨by repeat(first|exact HB.out|refine below_set ?_ GE5.out)⟩;refine skip_ (w1:=(((((w9.setCell ⟨gb5,0,none⟩ (.int .i64 (n0:Int))).setCell ⟨gb5,1,none⟩ (.bool a0_1)).setCell ⟨gb5,2,none⟩ (.slice A0_2 l0_2.length c0_2)).setCell ⟨gb5,3,none⟩ (.slice A1 n1 c1)).setCell ⟨gb5,4,none⟩ (.slice Ao R0.length co))) (by rfl) rfl ?_ ?_
 ·go_simp
 clear hs0 hfs0 hs1 hfs1 hs2 hfs2 hs3 hfs3 hs4 hfs4;refine hK.out _ _ ⟨(blk_cell n1_.out 0).trans rfl,(blk_cell n1_.out 1).trans rfl,(blk_cell n1_.out 2).trans rfl⟩ (fun hHeld=> ?_);clear hK K BK5 BK111 BK4 HO HB hHeld;have BK5:=n0_;have BK111:=n1_;have BK4:=n2_;have HO:=n3_;have HB:=n4_;clear n0_ n1_ n2_ n3_ n4_;refine done_ (by kernel_rfl) ?_;generalize (((((w9.setCell ⟨gb5,0,none⟩ (.int .i64 (n0:Int))).setCell ⟨gb5,1,none⟩ (.bool a0_1)).setCell ⟨gb5,2,none⟩ (.slice A0_2 l0_2.length c0_2)).setCell ⟨gb5,3,none⟩ (.slice A1 n1 c1)).setCell ⟨gb5,4,none⟩ (.slice Ao R0.length co))=w10 at BK5 BK111 BK4 HO HB ⊢;go_wp2_with fail;refine start_ (n:=6) (S:=(fun w'=>w'.cell? ⟨gb111,0,none⟩=some (.int .i64 (n0:Int))∧w'.cell? ⟨gb111,1,none⟩=some (.bool a0_1)∧w'.cell? ⟨gb111,2,none⟩=some (.slice A0_2 l0_2.length c0_2))) (ds:=[]) #[false,false,false,false,false,false] (by kernel_rfl) rfl rfl ⟨(blk_cell BK111.out 0).trans rfl,(blk_cell BK111.out 1).trans rfl,(blk_cell BK111.out 2).trans rfl⟩ (fun hHeld=> ?_);have n0_:=Aside0.mk (below_drew HB.out);have n1_:Aside0 (w10.drew.heap[gb111]? =some (.cells #[.int .i64 (n0:Int), .bool a0_1, .slice A0_2 l0_2.length c0_2] 24 (0,0))):=⟨BK111.out⟩;have n2_:Aside0 (w10.drew.heap[gb4]? =some (.cells #[.int .i64 0, .bool false, .slice none 0 0, .slice none 0 0, .slice none 0 0] 107 (0,0))):=⟨BK4.out⟩;have n3_:Aside0 (w10.drew.heap[gb5]? =some (.cells #[.int .i64 (n0:Int), .bool a0_1, .slice A0_2 l0_2.length c0_2, .slice A1 n1 c1, .slice Ao R0.length co] 107 (0,0))):=⟨BK5.out⟩;have n4_:=Aside0.mk (Kd.S_drew HO.out);clear HB BK111 BK4 BK5 HO;have HB:=n0_;have BK111:=n1_;have BK4:=n2_;have BK5:=n3_;have HO:=n4_;clear n0_ n1_ n2_ n3_ n4_;generalize w10.drew=w11 at BK111 HB BK4 BK5 HO hHeld ⊢;refine take_ (i:=0) (N:=some 20) (v:= ?_) (a':= ?_) #[true,false,false,false,false,false] rfl rfl (by kernel_rfl) (fun _ _ _ h=>h) (Or.inl ⟨by rfl,?_⟩) hHeld ?_ ?_
 rotate_left
 ·rintro w' ⟨s0,s1,s2⟩
  go_simp
  with_reducible rfl
 rotate_left
 ·simp only[Act.put,List.setIfInBounds_toArray,List.set_cons_zero,List.set_cons_succ,i64_w,i32_w]
  rfl
 refine take_ (i:=2) (N:=some 22) (v:= ?_) (a':= ?_) #[true,false,true,false,false,false] rfl rfl (by kernel_rfl) (fun _ _ _ h=>h) (Or.inl ⟨by rfl,?_⟩) hHeld ?_ ?_
 rotate_left
 ·rintro w' ⟨s0,s1,s2⟩
  go_simp
  with_reducible rfl
 rotate_left
 ·simp only[Act.put,List.setIfInBounds_toArray,List.set_cons_zero,List.set_cons_succ,i64_w,i32_w]
  rfl
 refine one_ (i:=1) (N:=some 21) #[true,true,true,false,false,false] rfl rfl (by kernel_rfl) (by decide) (fun K hK=> ?_);refine goes_ Try.func83 (by kernel_rfl) rfl #[.agg #[.int .i64 (n0:Int), .bool a0_1, .slice A0_2 l0_2.length c0_2]] (by rfl) rfl rfl (by(try simp only[List.map_toArray,List.map_cons,List.map_nil]);first|done|rfl) ?_
 refine(leaving_calls (n0:Int) a0_1 A0_2 c0_2 l0_2 _ (Kd.C_below HR0.out HB.out) HC0_2.out HH0.out HH1.out (by omega) HE0.out).mono ?_;rintro e w12 ⟨v21,rfl,hS,hb⟩;refine⟨_,rfl,?_⟩;have n0_:=Aside0.mk (below_step HB.out hb);have n1_:=Aside0.mk (blk_below BK111.out hb);have n2_:=Aside0.mk (blk_below BK4.out hb);have n3_:=Aside0.mk (blk_below BK5.out hb);have n4_:=Aside0.mk (Kd.S_below HO.out hb);have n5_:=Aside0.mk (Kd.S_lower hS HB.out.size);clear HB BK111 BK4 BK5 HO hS hb;have HB:=n0_;have BK111:=n1_;have BK4:=n2_;have BK5:=n3_;have HO:=n4_;have Hv21:=n5_;clear n0_ n1_ n2_ n3_ n4_ n5_;obtain⟨Av21,cv21,ev21⟩:=Kd.S_slice Hv21.out;subst ev21;refine hK.out _ _ ⟨(blk_cell BK111.out 0).trans rfl,(blk_cell BK111.out 1).trans rfl,(blk_cell BK111.out 2).trans rfl⟩ (fun hHeld=> ?_);clear hK K;refine norm_ (a':= ?_) ?_ ?_
 rotate_left
 ·show Act.put _ (some 21) _=_
  simp only[Act.put,List.setIfInBounds_toArray,List.set_cons_zero,List.set_cons_succ,i64_w,i32_w];rfl
 refine one_ (i:=3) (N:=some 23) #[true,true,true,true,false,false] rfl rfl (by kernel_rfl) (by decide) (fun K hK=> ?_);refine goes_ Try.func84 (by kernel_rfl) rfl #[.agg #[.int .i64 (n0:Int), .bool a0_1, .slice A0_2 l0_2.length c0_2]] (by rfl) rfl rfl (by(try simp only[List.map_toArray,List.map_cons,List.map_nil]);first|done|rfl) ?_
 refine(coming_calls (n0:Int) a0_1 A0_2 c0_2 l0_2 _ (Kd.C_below HR0.out HB.out) HC0_2.out HH0.out HH1.out (by omega) HE1.out).mono ?_;rintro e w13 ⟨v23,rfl,hS,hb⟩;refine⟨_,rfl,?_⟩;have n0_:=Aside0.mk (below_step HB.out hb);have n1_:=Aside0.mk (blk_below BK111.out hb);have n2_:=Aside0.mk (blk_below BK4.out hb);have n3_:=Aside0.mk (blk_below BK5.out hb);have n4_:=Aside0.mk (Kd.S_below HO.out hb);have n5_:=Aside0.mk (Kd.S_lower hS HB.out.size);have m_:=Aside0.mk (Kd.S_below Hv21.out hb);clear Hv21;have Hv21:=m_;clear m_;clear HB BK111 BK4 BK5 HO hS hb;have HB:=n0_;have BK111:=n1_;have BK4:=n2_;have BK5:=n3_;have HO:=n4_;have Hv23:=n5_;clear n0_ n1_ n2_ n3_ n4_ n5_;obtain⟨Av23,cv23,ev23⟩:=Kd.S_slice Hv23.out;subst ev23;refine hK.out _ _ ⟨(blk_cell BK111.out 0).trans rfl,(blk_cell BK111.out 1).trans rfl,(blk_cell BK111.out 2).trans rfl⟩ (fun hHeld=> ?_);clear hK K;refine norm_ (a':= ?_) ?_ ?_
 rotate_left
 ·show Act.put _ (some 23) _=_
  simp only[Act.put,List.setIfInBounds_toArray,List.set_cons_zero,List.set_cons_succ,i64_w,i32_w];rfl
 refine pure_ (i:=4) (N:=some 6) (v:= ?_) (a':= ?_) #[true,true,true,true,true,false] rfl rfl (by kernel_rfl) (fun _ _ _ h=>h) (Or.inl ⟨by rfl,?_⟩) ?_ ?_
 rotate_left
 ·intro w'
  go_simp
  with_reducible rfl
 rotate_left
 ·simp only[Act.put,List.setIfInBounds_toArray,List.set_cons_zero,List.set_cons_succ,i64_w,i32_w]
  rfl
 refine pure_ (i:=5) (N:=some 7) (v:= ?_) (a':= ?_) #[true,true,true,true,true,true] rfl rfl (by kernel_rfl) (fun _ _ _ h=>h) (Or.inl ⟨by rfl,?_⟩) ?_ ?_
 rotate_left
 ·intro w'
  go_simp
  with_reducible rfl
 rotate_left
 ·simp only[Act.put,List.setIfInBounds_toArray,List.set_cons_zero,List.set_cons_succ,i64_w,i32_w]
  rfl
 refine done_ (by kernel_rfl) ?_;go_wp2_with fail;have HR0':Aside0 (R0=rowsAt l0_2 n0 0):=⟨by rw[NR0.out,rowsAt_zero,Int.toNat_natCast]⟩;have hlR:R0.length=n0:=by rw[HR0'.out,rowsAt_len]
 rw[hlR] at HO BK5 ⊢;rw[HR0'.out] at HO;simp only[Int.toNat_natCast] at Hv21 Hv23 ⊢;clear hHeld;obtain⟨L0,hL0⟩: ∃ L,L=lsAt eFrom l0_2 n0 l0_2.length:=⟨_,rfl⟩;obtain⟨L1,hL1⟩: ∃ L,L=lsAt eTo l0_2 n0 l0_2.length:=⟨_,rfl⟩;have hn0:L0.length=n0:=by rw[hL0,lsAt_len]
 have hn1:L1.length=n0:=by rw[hL1,lsAt_len]
 rw[← hL0,hn0] at Hv21 ⊢;rw[← hL1,hn1] at Hv23 ⊢;have HL0:=Aside0.mk hL0;have HL1:=Aside0.mk hL1;clear hL0 hL1;clear HR0' hlR HR0_2;have hn6:n0≤1000000:=by have:=HH1.out;omega
 go_loopw [26] (fun v26 w'=> ∃ k:Nat,k≤n0∧v26= .int .i64 k∧Aside0 (Kd.S (Kd.slice 79 k79) 67 w' w.heap.size (fun _=>True) (.slice Ao n0 co) (rowsAt l0_2 n0 k))∧Aside0 (w'.heap[gb111]? =some (.cells #[.int .i64 (n0:Int), .bool a0_1, .slice A0_2 l0_2.length c0_2] 24 (0,0)))∧Aside0 (w'.heap[gb4]? =some (.cells #[.int .i64 0, .bool false, .slice none 0 0, .slice none 0 0, .slice none 0 0] 107 (0,0)))∧Aside0 (w'.heap[gb5]? =some (.cells #[.int .i64 (n0:Int), .bool a0_1, .slice A0_2 l0_2.length c0_2, .slice A1 n1 c1, .slice Ao n0 co] 107 (0,0)))∧Aside0 (Kd.S (Kd.slice 3 (Kd.int .i64)) 31 w' w.heap.size (fun _=>True) (.slice Av21 n0 cv21) L0)∧Aside0 (Kd.S (Kd.slice 3 (Kd.int .i64)) 31 w' w.heap.size (fun _=>True) (.slice Av23 n0 cv23) L1)∧Aside0 (Below w.heap.size w w')) (fun v26 _=>n0 - (intOf v26).toNat)
 case atStart=>exact⟨0,Nat.zero_le _,rfl,HO,BK111,BK4,BK5,Hv21,Hv23,HB⟩
 case round=>
  clear HO BK111 BK4 BK5 Hv21 Hv23 HB;obtain⟨k,hk,rfl,HO,BK111,BK4,BK5,Hv21,Hv23,HB⟩:=hrel;by_cases hlt:k<n0
  ·have pk:0≤((k:Nat):Int):=by omega
   have qk:((k:Nat):Int)<(n0:Int):=by omega
   have c27:decide ((k:Int)<(n0:Int))=true:=decide_eq_true qk;obtain⟨ad0,AA0,cc0,e_,hx_,hl_,_⟩:=at_L5 (Kd.S_reads' Hv21.out).2.2 (k:Int) pk (by rw[hn0];omega);cases e_;obtain⟨ce_,hce_,hM_,hcc_⟩:=Kd.S_get Hv21.out [] (k:Int) pk qk;obtain⟨ve_,rfl,ge_⟩:=hM_;have hv_:=hcc_ 0 _ rfl;rw[Nat.add_zero,show ((Kd.slice 3 (Kd.int .i64))).sz=1 from rfl,Nat.mul_one] at hv_;replace hv_:=Option.some.inj (hv_.symm.trans hx_);rw[hv_] at ge_;obtain⟨LL0,hLL0⟩: ∃ L,L=rd_L5 L0 (k:Int):=⟨_,rfl⟩;have HLL0:Aside0 (Kd.R (Kd.int .i64) 3 wr w.heap.size (fun _=>True) (.slice AA0 LL0.length cc0) LL0):=⟨by rw[hLL0];exact Kd.R_mono ge_ (fun _ _=>trivial)⟩;rw[← hLL0] at hx_;simp only[Int.toNat_natCast] at hx_;have HELL0:=Aside0.mk hLL0;clear ge_ hv_ hcc_ hce_ hl_ hLL0;have hxLL0:=hx_;clear hx_;obtain⟨go,co2,eo,gbase,glt,cl,HG⟩:=Kd.S_form HO.out (by rw[rowsAt_len];omega);rw[rowsAt_len] at eo;injection eo with ea _ ec
   subst ea;subst ec;have GBO:=Aside0.mk gbase;clear gbase glt HG;have HLE0:Aside0 (LL0.length≤500000):=⟨by rw[HELL0.out,HL0.out];exact Nat.le_trans (lsAt_row _ _ _ _ _) hl⟩;go_wp2_with fail;have hLL0:=HLE0.out;obtain⟨wo1,hwo1⟩: ∃ x_:World,x_=wr:=⟨_,rfl⟩;subst hwo1;go_loopw [34] (fun v_ w'=> ∃ j:Nat,j≤LL0.length∧v_= .int .i64 j∧Aside0 (Kd.S (Kd.slice 79 k79) 67 w' w.heap.size (fun _=>True) (.slice (some ⟨go,0,none⟩) n0 co) ((rowsAt l0_2 n0 k).set k (([]:List S79) ++ (LL0.take j).map (fun i=>(⟨i,false⟩:S79)))))∧Aside0 (w'.heap[gb111]? =some (.cells #[.int .i64 (n0:Int), .bool a0_1, .slice A0_2 l0_2.length c0_2] 24 (0,0)))∧Aside0 (w'.heap[gb4]? =some (.cells #[.int .i64 0, .bool false, .slice none 0 0, .slice none 0 0, .slice none 0 0] 107 (0,0)))∧Aside0 (w'.heap[gb5]? =some (.cells #[.int .i64 (n0:Int), .bool a0_1, .slice A0_2 l0_2.length c0_2, .slice A1 n1 c1, .slice (some ⟨go,0,none⟩) n0 co] 107 (0,0)))∧Aside0 (Kd.S (Kd.slice 3 (Kd.int .i64)) 31 w' w.heap.size (fun _=>True) (.slice (some ad0) n0 cv21) L0)∧Aside0 (Kd.S (Kd.slice 3 (Kd.int .i64)) 31 w' w.heap.size (fun _=>True) (.slice Av23 n0 cv23) L1)∧Aside0 (Kd.R (Kd.int .i64) 3 w' w.heap.size (fun _=>True) (.slice AA0 LL0.length cc0) LL0)∧Aside0 (Below w.heap.size w w')) (fun v_ _=>LL0.length - (intOf v_).toNat)
   case atStart=>exact⟨0,Nat.zero_le _,rfl,⟨by rw[List.take_zero,List.map_nil,List.append_nil,rowsAt_self l0_2 n0 k hlt];exact HO.out⟩,BK111,BK4,BK5,Hv21,Hv23,HLL0,HB⟩
   case round=>
    clear HO BK111 BK4 BK5 Hv21 Hv23 HLL0 HB;obtain⟨j,hj,rfl,HO,BK111,BK4,BK5,Hv21,Hv23,HLL0,HB⟩:=hrel;by_cases hltj:j<LL0.length
    ·have pj:0≤((j:Nat):Int):=by omega
     have qj:((j:Nat):Int)<(LL0.length:Int):=by omega
     have cj:decide ((j:Int)<(LL0.length:Int))=true:=decide_eq_true qj;obtain⟨adj,eadj,hxj⟩:=Kd.at_int (Kd.R_reads' HLL0.out).2.2 (j:Int) pj qj;cases eadj;simp only[Int.toNat_natCast] at hxj;have HST:=Aside0.mk (row_step ([]:List S79) LL0 false j hltj);obtain⟨xj,hxv⟩: ∃ x_,x_=rd LL0 (j:Int):=⟨_,rfl⟩;obtain⟨RW,hRW⟩: ∃ r_,r_=(([]:List S79) ++ (LL0.take j).map (fun i=>(⟨i,false⟩:S79))):=⟨_,rfl⟩;have HRL:Aside0 (RW.length≤1000000):=⟨by rw[hRW];simp;have:=HLE0.out;omega⟩;rw[← hRW, ← hxv] at HST;obtain⟨RW2,hRW2⟩: ∃ r_,r_=(([]:List S79) ++ (LL0.take (j+1)).map (fun i=>(⟨i,false⟩:S79))):=⟨_,rfl⟩;rw[← hRW2] at HST;have HRW2:=Aside0.mk hRW2;clear hRW2;rw[← hxv] at hxj;rw[← hRW] at HO;have HRW:=Aside0.mk hRW;have HXV:=Aside0.mk hxv;clear hRW hxv;obtain⟨oki,c_,_,hM_,hcc_,_,_,hH_⟩:=Kd.S_elem HO.out [] (k:Int) pk qk;obtain⟨vr,rfl,hR_⟩:=hM_;rw[show ((rowsAt l0_2 n0 k).set k RW).getD (k:Int).toNat []=RW from rd_set (rowsAt l0_2 n0 k) k RW (by rw[rowsAt_len];exact hlt)] at hR_;obtain⟨Ar,cr,er⟩:=Kd.R_slice hR_;subst er;have hx4:=hcc_ 0 _ rfl;rw[show ((Kd.slice 79 k79)).sz=1 from rfl,Nat.mul_one,Nat.add_zero,Int.toNat_natCast] at hx4;have UU:=Aside0.mk hR_;have HH:=Aside0.mk hH_;clear hcc_ hR_ hH_;have hx5:wr.cell? ⟨gb5,4,none⟩=some (.slice (some ⟨go,0,none⟩) n0 co):=(blk_cell BK5.out 4).trans rfl;go_wp2_with fail;refine start_ (n:=14) (S:=fun w'=>w'.cell? ⟨gb5,4,none⟩=some (.slice (some ⟨go,0,none⟩) n0 co)∧w'.cell? ⟨go,k,none⟩=some (.slice Ar RW.length cr)) (ds:=[13]) #[false,false,false,false,false,false,false,false,false,false,false,false,false,false] (by kernel_rfl) rfl rfl ⟨hx5,hx4⟩ (fun hHeld=> ?_);have m0_:=Aside0.mk (below_drew HB.out);have m1_:=Aside0.mk ((show wr.drew.heap[gb111]? =_ from BK111.out));have m2_:=Aside0.mk ((show wr.drew.heap[gb4]? =_ from BK4.out));have m3_:=Aside0.mk ((show wr.drew.heap[gb5]? =_ from BK5.out));have m4_:=Aside0.mk (Kd.S_drew Hv21.out);have m5_:=Aside0.mk (Kd.S_drew Hv23.out);have m6_:=Aside0.mk (Kd.R_drew HLL0.out);have m7_:=Aside0.mk (Kd.R_drew UU.out);have m8_:=Aside0.mk (Kd.H_drew HH.out);clear HB BK111 BK4 BK5 Hv21 Hv23 HLL0 UU HH;have HB:=m0_;clear m0_;have BK111:=m1_;clear m1_;have BK4:=m2_;clear m2_;have BK5:=m3_;clear m3_;have Hv21:=m4_;clear m4_;have Hv23:=m5_;clear m5_;have HLL0:=m6_;clear m6_;have UU:=m7_;clear m7_;have HH:=m8_;clear m8_;clear HO hxj hx5 hx4;generalize wr.drew=w14 at HB BK111 BK4 BK5 Hv21 Hv23 HLL0 UU HH hHeld ⊢;refine pure_ (i:=0) (N:=some 38) (v:= ?_) (a':= ?_) #[true,false,false,false,false,false,false,false,false,false,false,false,false,false] rfl rfl (by kernel_rfl) (fun _ _ _ h=>h) (Or.inl ⟨by rfl,?_⟩) ?_ ?_
     rotate_left
     ·intro w'
      go_simp
      with_reducible rfl
     rotate_left
     ·simp only[Act.put,List.setIfInBounds_toArray,List.set_cons_zero,List.set_cons_succ,i64_w,i32_w]
      rfl
     refine pure_ (i:=2) (N:=some 40) (v:= ?_) (a':= ?_) #[true,false,true,false,false,false,false,false,false,false,false,false,false,false] rfl rfl (by kernel_rfl) (fun _ _ _ h=>h) (Or.inl ⟨by rfl,?_⟩) ?_ ?_
     rotate_left
     ·intro w'
      go_simp
      with_reducible rfl
     rotate_left
     ·simp only[Act.put,List.setIfInBounds_toArray,List.set_cons_zero,List.set_cons_succ,i64_w,i32_w]
      rfl
     refine pure_ (i:=3) (N:=some 41) (v:= ?_) (a':= ?_) #[true,false,true,true,false,false,false,false,false,false,false,false,false,false] rfl rfl (by kernel_rfl) (fun _ _ _ h=>h) (Or.inl ⟨by rfl,?_⟩) ?_ ?_
     rotate_left
     ·intro w'
      go_simp
      with_reducible rfl
     rotate_left
     ·simp only[Act.put,List.setIfInBounds_toArray,List.set_cons_zero,List.set_cons_succ,i64_w,i32_w]
      rfl
     refine pure_ (i:=5) (N:=some 43) (v:= ?_) (a':= ?_) #[true,false,true,true,false,true,false,false,false,false,false,false,false,false] rfl rfl (by kernel_rfl) (fun _ _ _ h=>h) (Or.inl ⟨by rfl,?_⟩) ?_ ?_
     rotate_left
     ·intro w'
      go_simp
      with_reducible rfl
     rotate_left
     ·simp only[Act.put,List.setIfInBounds_toArray,List.set_cons_zero,List.set_cons_succ,i64_w,i32_w]
      rfl
     refine pure_ (i:=8) (N:=some 46) (v:= ?_) (a':= ?_) #[true,false,true,true,false,true,false,false,true,false,false,false,false,false] rfl rfl (by kernel_rfl) (fun _ _ _ h=>h) (Or.inl ⟨by rfl,?_⟩) ?_ ?_
     rotate_left
     ·intro w'
      go_simp
      with_reducible rfl
     rotate_left
     ·simp only[Act.put,List.setIfInBounds_toArray,List.set_cons_zero,List.set_cons_succ,i64_w,i32_w]
      rfl
     refine pure_ (i:=9) (N:=some 47) (v:= ?_) (a':= ?_) #[true,false,true,true,false,true,false,false,true,true,false,false,false,false] rfl rfl (by kernel_rfl) (fun _ _ _ h=>h) (Or.inl ⟨by rfl,?_⟩) ?_ ?_
     rotate_left
     ·intro w'
      go_simp
      with_reducible rfl
     rotate_left
     ·simp only[Act.put,List.setIfInBounds_toArray,List.set_cons_zero,List.set_cons_succ,i64_w,i32_w]
      rfl
     refine take_ (i:=1) (N:=some 39) (v:= ?_) (a':= ?_) #[true,true,true,true,false,true,false,false,true,true,false,false,false,false] rfl rfl (by kernel_rfl) (fun _ _ _ h=>h) (Or.inl ⟨by rfl,?_⟩) hHeld ?_ ?_
     rotate_left
     ·rintro w' ⟨s0,s1⟩
      go_simp
      with_reducible rfl
     rotate_left
     ·simp only[Act.put,List.setIfInBounds_toArray,List.set_cons_zero,List.set_cons_succ,i64_w,i32_w]
      rfl
     refine take_ (i:=4) (N:=some 42) (v:= ?_) (a':= ?_) #[true,true,true,true,true,true,false,false,true,true,false,false,false,false] rfl rfl (by kernel_rfl) (fun _ _ _ h=>h) (Or.inl ⟨by rfl,?_⟩) hHeld ?_ ?_
     rotate_left
     ·rintro w' ⟨s0,s1⟩
      go_simp
      with_reducible rfl
     rotate_left
     ·simp only[Act.put,List.setIfInBounds_toArray,List.set_cons_zero,List.set_cons_succ,i64_w,i32_w]
      rfl
     refine pure_ (i:=6) (N:=some 44) (v:= ?_) (a':= ?_) #[true,true,true,true,true,true,true,false,true,true,false,false,false,false] rfl rfl (by kernel_rfl) (fun _ _ _ h=>h) (Or.inl ⟨by rfl,?_⟩) ?_ ?_
     rotate_left
     ·intro w'
      go_simp
      with_reducible rfl
     rotate_left
     ·simp only[Act.put,List.setIfInBounds_toArray,List.set_cons_zero,List.set_cons_succ,i64_w,i32_w]
      rfl
     refine take_ (i:=7) (N:=some 45) (v:= ?_) (a':= ?_) #[true,true,true,true,true,true,true,true,true,true,false,false,false,false] rfl rfl (by kernel_rfl) (fun _ _ _ h=>h) (Or.inl ⟨by rfl,?_⟩) hHeld ?_ ?_
     rotate_left
     ·rintro w' ⟨s0,s1⟩
      go_simp
      with_reducible rfl
     rotate_left
     ·simp only[Act.put,List.setIfInBounds_toArray,List.set_cons_zero,List.set_cons_succ,i64_w,i32_w]
      rfl
     refine one_ (i:=10) (N:=some 48) #[true,true,true,true,true,true,true,true,true,true,true,false,false,false] rfl rfl (by kernel_rfl) (by decide) (fun K hK=> ?_);refine value_ (w1:= ?_) (v:= ?_) (by rfl) rfl ?_ ?_
     rotate_left 2
     ·go_simp
      constructor
      ·rfl
      ·rfl
     refine hK.out _ _ ⟨(blk_cell (blk_alloc BK5.out _) 4).trans rfl,(World.cell?_alloc_lt _ _ _ (World.block_lt_of_cell? _ _ hHeld.2)).trans hHeld.2⟩ (fun hHeld2=> ?_);clear hK K hHeld2;refine norm_ (a':= ?_) ?_ ?_
     rotate_left
     ·show Act.put _ (some 48) _=_
      simp only[Act.put,List.setIfInBounds_toArray,List.set_cons_zero,List.set_cons_succ,i64_w,i32_w];rfl
     refine one_ (i:=11) (N:=some 49) #[true,true,true,true,true,true,true,true,true,true,true,true,false,false] rfl rfl (by kernel_rfl) (by decide) (fun K hK=> ?_);refine Kd.R_append_step k79 (w0:=w) w.heap.size (by rfl) (.tmp 45) (.tmp 48) 67 79 (.agg #[(.int .i64 0),(.bool false)]) 16 rfl Try.underlying67 info79 rfl (by decide) (by omega) (.slice Ar RW.length cr) RW (⟨xj,false⟩:S79) [.int .i64 xj, .bool false] (fun k_=>oki k_∨((fun _=>True)) k_∧w14.heap.size≤k_) (fun _=>False) rfl rfl ?aP (fun _ hk=>hk.elim) ?aF ?aO ?aB ?aS ?aL ?_
     (case aP=>exact k79_mkM _ _ _ (⟨xj,false⟩:S79))
     (case aF=>exact fun k_ hk=> .inr ⟨trivial,hk⟩)
     (case aO=>exact Kd.R_mono UU.out (fun _ hk=> .inl hk))
     (case aB=>exact HB.out)
     (case aS=>exact HB.out.size)
     (case aL=>have:=HRL.out;omega)
     intro v_ w16 ho hb hg hat
     clear hat
     have m0_:=Aside0.mk (blk_grown BK111.out hg (Kd.R_ne UU.out BK111.out (by decide)));have m1_:=Aside0.mk (blk_grown BK4.out hg (Kd.R_ne UU.out BK4.out (by decide)));have m2_:=Aside0.mk (blk_grown BK5.out hg (Kd.R_ne UU.out BK5.out (by decide)));have m3_:=Aside0.mk (Kd.S_over' Hv21.out (Kd.R_typed UU.out) (by decide) hg);have m4_:=Aside0.mk (Kd.S_over' Hv23.out (Kd.R_typed UU.out) (by decide) hg);have m5_:=Aside0.mk (Kd.R_over' HLL0.out (Kd.R_typed UU.out) (by decide) hg);have m6_:=Aside0.mk (Kd.H_grown (Kd.H_widen HH.out) hg (fun k_ e_=> .inl (UU.out.1 k_ e_)));have m7_:=Aside0.mk (hb);have m8_:=Aside0.mk (ho);clear BK111 BK4 BK5 Hv21 Hv23 HLL0 HH HB UU;have BK111:=m0_;clear m0_;have BK4:=m1_;clear m1_;have BK5:=m2_;clear m2_;have Hv21:=m3_;clear m3_;have Hv23:=m4_;clear m4_;have HLL0:=m5_;clear m5_;have HH:=m6_;clear m6_;have HB:=m7_;clear m7_;have UU:=m8_;clear m8_;rw[← HST.out] at UU;obtain⟨A2,c2,e2⟩:=Kd.R_slice UU.out;subst e2;obtain⟨_,_,hraw,_,_,hcc_,_⟩:=Kd.H_raw HH.out pk qk;obtain⟨_,hfr_⟩:=Kd.H_at HH.out pk qk;have hx4:=hcc_ 0 _ rfl;have hf4:=hfr_ 0;rw[show ((Kd.slice 79 k79)).sz=1 from rfl,Nat.mul_one,Nat.add_zero,Int.toNat_natCast] at hx4 hf4;have HRAW:=Aside0.mk hraw;clear hcc_ hfr_ hraw ho hb hg;refine hK.out _ _ ⟨(blk_cell BK5.out 4).trans rfl,hx4⟩ (fun hHeld=> ?_);clear hK K;refine norm_ (a':= ?_) ?_ ?_
     rotate_left
     ·show Act.put _ (some 49) _=_
      simp only[Act.put,List.setIfInBounds_toArray,List.set_cons_zero,List.set_cons_succ,i64_w,i32_w];rfl
     refine pure_ (i:=12) (N:=some 50) (v:= ?_) (a':= ?_) #[true,true,true,true,true,true,true,true,true,true,true,true,true,false] rfl rfl (by kernel_rfl) (fun _ _ _ h=>h) (Or.inl ⟨by rfl,?_⟩) ?_ ?_
     rotate_left
     ·intro w'
      go_simp
      with_reducible rfl
     rotate_left
     ·simp only[Act.put,List.setIfInBounds_toArray,List.set_cons_zero,List.set_cons_succ,i64_w,i32_w]
      rfl
     have HP:=Kd.S_seg0 HH.out pk qk (seg:=[.slice A2 RW2.length c2]) (j:=0) (show 1≤1 from by decide) (x':=RW2) (Kd.M_row UU.out) (fun _ hk=>hk);rw[show ((Kd.slice 79 k79)).sz=1 from rfl,Nat.mul_one,Nat.add_zero,Int.toNat_natCast,List.set_set] at HP;have HG2:w16.grownBy (w16.setCell ⟨go,k,none⟩ (.slice A2 RW2.length c2)) (some go):=HP.2;have HO:=Aside0.mk (show Kd.S (Kd.slice 79 k79) 67 (w16.setCell ⟨go,k,none⟩ (.slice A2 RW2.length c2)) w.heap.size (fun _=>True) (.slice (some ⟨go,0,none⟩) n0 co) ((rowsAt l0_2 n0 k).set k RW2) from HP.1);refine last_ (i:=13) (N:=none) #[true,true,true,true,true,true,true,true,true,true,true,true,true,true] rfl rfl (by kernel_rfl) (by decide) (fun K hK=> ?_);refine skip_ (w1:=w16.setCell ⟨go,k,none⟩ (.slice A2 RW2.length c2)) (by rfl) rfl ?_ ?_
     ·go_simp
     refine hK.out _ _ ?_;clear hK K;have m0_:=Aside0.mk (blk_grown BK111.out HG2 (Kd.R_ne HRAW.out BK111.out (by decide)));have m1_:=Aside0.mk (blk_grown BK4.out HG2 (Kd.R_ne HRAW.out BK4.out (by decide)));have m2_:=Aside0.mk (blk_grown BK5.out HG2 (Kd.R_ne HRAW.out BK5.out (by decide)));have m3_:=Aside0.mk (Kd.S_over' Hv21.out (Kd.R_typed HRAW.out) (by decide) HG2);have m4_:=Aside0.mk (Kd.S_over' Hv23.out (Kd.R_typed HRAW.out) (by decide) HG2);have m5_:=Aside0.mk (Kd.R_over' HLL0.out (Kd.R_typed HRAW.out) (by decide) HG2);have m6_:=Aside0.mk ((below_set HB.out GBO.out:Below w.heap.size w (w16.setCell ⟨go,k,none⟩ (.slice A2 RW2.length c2))));clear BK111 BK4 BK5 Hv21 Hv23 HLL0 HB;have BK111:=m0_;clear m0_;have BK4:=m1_;clear m1_;have BK5:=m2_;clear m2_;have Hv21:=m3_;clear m3_;have Hv23:=m4_;clear m4_;have HLL0:=m5_;clear m5_;have HB:=m6_;clear m6_;clear HP HG2 HRAW UU HH hHeld hx4 hf4;refine done_ (by kernel_rfl) ?_;generalize w16.setCell ⟨go,k,none⟩ (.slice A2 RW2.length c2)=w17 at HO BK111 BK4 BK5 Hv21 Hv23 HLL0 HB ⊢;rw[HRW2.out] at HO;clear HRW2 HST HRW;go_wp2_with fail;go_roundw
     case rel=>exact⟨j+1,by omega,by first|rfl|go_num,HO,BK111,BK4,BK5,Hv21,Hv23,HLL0,HB⟩
     case measure=>simp[intOf]<;>omega
    ·have ej:j=LL0.length:=by omega
     subst ej;rw[List.take_length] at HO;have cj:decide ((LL0.length:Int)<(LL0.length:Int))=false:=decide_eq_false (by omega);have hlenx:True:=trivial;obtain⟨ad1,AA1,cc1,e_,hx_,hl_,_⟩:=at_L5 (Kd.S_reads' Hv23.out).2.2 (k:Int) pk (by rw[hn1];omega);cases e_;obtain⟨ce_,hce_,hM_,hcc_⟩:=Kd.S_get Hv23.out [] (k:Int) pk qk;obtain⟨ve_,rfl,ge_⟩:=hM_;have hv_:=hcc_ 0 _ rfl;rw[Nat.add_zero,show ((Kd.slice 3 (Kd.int .i64))).sz=1 from rfl,Nat.mul_one] at hv_;replace hv_:=Option.some.inj (hv_.symm.trans hx_);rw[hv_] at ge_;obtain⟨LL1,hLL1⟩: ∃ L,L=rd_L5 L1 (k:Int):=⟨_,rfl⟩;have HLL1:Aside0 (Kd.R (Kd.int .i64) 3 wr w.heap.size (fun _=>True) (.slice AA1 LL1.length cc1) LL1):=⟨by rw[hLL1];exact Kd.R_mono ge_ (fun _ _=>trivial)⟩;rw[← hLL1] at hx_;simp only[Int.toNat_natCast] at hx_;have HELL1:=Aside0.mk hLL1;clear ge_ hv_ hcc_ hce_ hl_ hLL1;have hxLL1:=hx_;clear hx_;have HLE1:Aside0 (LL1.length≤500000):=⟨by rw[HELL1.out,HL1.out];exact Nat.le_trans (lsAt_row _ _ _ _ _) hl⟩;go_wp2_with fail;have hLL1:=HLE1.out;obtain⟨wo2,hwo2⟩: ∃ x_:World,x_=wr:=⟨_,rfl⟩;subst hwo2;go_loopw [57] (fun v_ w'=> ∃ j:Nat,j≤LL1.length∧v_= .int .i64 j∧Aside0 (Kd.S (Kd.slice 79 k79) 67 w' w.heap.size (fun _=>True) (.slice (some ⟨go,0,none⟩) n0 co) ((rowsAt l0_2 n0 k).set k ((([]:List S79) ++ LL0.map (fun i=>(⟨i,false⟩:S79))) ++ (LL1.take j).map (fun i=>(⟨i,true⟩:S79)))))∧Aside0 (w'.heap[gb111]? =some (.cells #[.int .i64 (n0:Int), .bool a0_1, .slice A0_2 l0_2.length c0_2] 24 (0,0)))∧Aside0 (w'.heap[gb4]? =some (.cells #[.int .i64 0, .bool false, .slice none 0 0, .slice none 0 0, .slice none 0 0] 107 (0,0)))∧Aside0 (w'.heap[gb5]? =some (.cells #[.int .i64 (n0:Int), .bool a0_1, .slice A0_2 l0_2.length c0_2, .slice A1 n1 c1, .slice (some ⟨go,0,none⟩) n0 co] 107 (0,0)))∧Aside0 (Kd.S (Kd.slice 3 (Kd.int .i64)) 31 w' w.heap.size (fun _=>True) (.slice (some ad0) n0 cv21) L0)∧Aside0 (Kd.S (Kd.slice 3 (Kd.int .i64)) 31 w' w.heap.size (fun _=>True) (.slice (some ad1) n0 cv23) L1)∧Aside0 (Kd.R (Kd.int .i64) 3 w' w.heap.size (fun _=>True) (.slice AA1 LL1.length cc1) LL1)∧Aside0 (Below w.heap.size w w')) (fun v_ _=>LL1.length - (intOf v_).toNat)
     case atStart=>exact⟨0,Nat.zero_le _,rfl,⟨by rw[List.take_zero,List.map_nil,List.append_nil];exact HO.out⟩,BK111,BK4,BK5,Hv21,Hv23,HLL1,HB⟩
     case round=>
      clear HO BK111 BK4 BK5 Hv21 Hv23 HLL1 HB;obtain⟨j,hj,rfl,HO,BK111,BK4,BK5,Hv21,Hv23,HLL1,HB⟩:=hrel;by_cases hltj:j<LL1.length
      ·have pj:0≤((j:Nat):Int):=by omega
       have qj:((j:Nat):Int)<(LL1.length:Int):=by omega
       have cj:decide ((j:Int)<(LL1.length:Int))=true:=decide_eq_true qj;obtain⟨adj,eadj,hxj⟩:=Kd.at_int (Kd.R_reads' HLL1.out).2.2 (j:Int) pj qj;cases eadj;simp only[Int.toNat_natCast] at hxj;have HST:=Aside0.mk (row_step (([]:List S79) ++ LL0.map (fun i=>(⟨i,false⟩:S79))) LL1 true j hltj);obtain⟨xj,hxv⟩: ∃ x_,x_=rd LL1 (j:Int):=⟨_,rfl⟩;obtain⟨RW,hRW⟩: ∃ r_,r_=((([]:List S79) ++ LL0.map (fun i=>(⟨i,false⟩:S79))) ++ (LL1.take j).map (fun i=>(⟨i,true⟩:S79))):=⟨_,rfl⟩;have HRL:Aside0 (RW.length≤1000000):=⟨by rw[hRW];simp;have:=HLE0.out;have:=HLE1.out;omega⟩;rw[← hRW, ← hxv] at HST;obtain⟨RW2,hRW2⟩: ∃ r_,r_=((([]:List S79) ++ LL0.map (fun i=>(⟨i,false⟩:S79))) ++ (LL1.take (j+1)).map (fun i=>(⟨i,true⟩:S79))):=⟨_,rfl⟩;rw[← hRW2] at HST;have HRW2:=Aside0.mk hRW2;clear hRW2;rw[← hxv] at hxj;rw[← hRW] at HO;have HRW:=Aside0.mk hRW;have HXV:=Aside0.mk hxv;clear hRW hxv;obtain⟨oki,c_,_,hM_,hcc_,_,_,hH_⟩:=Kd.S_elem HO.out [] (k:Int) pk qk;obtain⟨vr,rfl,hR_⟩:=hM_;rw[show ((rowsAt l0_2 n0 k).set k RW).getD (k:Int).toNat []=RW from rd_set (rowsAt l0_2 n0 k) k RW (by rw[rowsAt_len];exact hlt)] at hR_;obtain⟨Ar,cr,er⟩:=Kd.R_slice hR_;subst er;have hx4:=hcc_ 0 _ rfl;rw[show ((Kd.slice 79 k79)).sz=1 from rfl,Nat.mul_one,Nat.add_zero,Int.toNat_natCast] at hx4;have UU:=Aside0.mk hR_;have HH:=Aside0.mk hH_;clear hcc_ hR_ hH_;have hx5:wr.cell? ⟨gb5,4,none⟩=some (.slice (some ⟨go,0,none⟩) n0 co):=(blk_cell BK5.out 4).trans rfl;go_wp2_with fail;refine start_ (n:=14) (S:=fun w'=>w'.cell? ⟨gb5,4,none⟩=some (.slice (some ⟨go,0,none⟩) n0 co)∧w'.cell? ⟨go,k,none⟩=some (.slice Ar RW.length cr)) (ds:=[13]) #[false,false,false,false,false,false,false,false,false,false,false,false,false,false] (by kernel_rfl) rfl rfl ⟨hx5,hx4⟩ (fun hHeld=> ?_);have m0_:=Aside0.mk (below_drew HB.out);have m1_:=Aside0.mk ((show wr.drew.heap[gb111]? =_ from BK111.out));have m2_:=Aside0.mk ((show wr.drew.heap[gb4]? =_ from BK4.out));have m3_:=Aside0.mk ((show wr.drew.heap[gb5]? =_ from BK5.out));have m4_:=Aside0.mk (Kd.S_drew Hv21.out);have m5_:=Aside0.mk (Kd.S_drew Hv23.out);have m6_:=Aside0.mk (Kd.R_drew HLL1.out);have m7_:=Aside0.mk (Kd.R_drew UU.out);have m8_:=Aside0.mk (Kd.H_drew HH.out);clear HB BK111 BK4 BK5 Hv21 Hv23 HLL1 UU HH;have HB:=m0_;clear m0_;have BK111:=m1_;clear m1_;have BK4:=m2_;clear m2_;have BK5:=m3_;clear m3_;have Hv21:=m4_;clear m4_;have Hv23:=m5_;clear m5_;have HLL1:=m6_;clear m6_;have UU:=m7_;clear m7_;have HH:=m8_;clear m8_;clear HO hxj hx5 hx4;generalize wr.drew=w14 at HB BK111 BK4 BK5 Hv21 Hv23 HLL1 UU HH hHeld ⊢;refine pure_ (i:=0) (N:=some 61) (v:= ?_) (a':= ?_) #[true,false,false,false,false,false,false,false,false,false,false,false,false,false] rfl rfl (by kernel_rfl) (fun _ _ _ h=>h) (Or.inl ⟨by rfl,?_⟩) ?_ ?_
       rotate_left
       ·intro w'
        go_simp
        with_reducible rfl
       rotate_left
       ·simp only[Act.put,List.setIfInBounds_toArray,List.set_cons_zero,List.set_cons_succ,i64_w,i32_w]
        rfl
       refine pure_ (i:=2) (N:=some 63) (v:= ?_) (a':= ?_) #[true,false,true,false,false,false,false,false,false,false,false,false,false,false] rfl rfl (by kernel_rfl) (fun _ _ _ h=>h) (Or.inl ⟨by rfl,?_⟩) ?_ ?_
       rotate_left
       ·intro w'
        go_simp
        with_reducible rfl
       rotate_left
       ·simp only[Act.put,List.setIfInBounds_toArray,List.set_cons_zero,List.set_cons_succ,i64_w,i32_w]
        rfl
       refine pure_ (i:=3) (N:=some 64) (v:= ?_) (a':= ?_) #[true,false,true,true,false,false,false,false,false,false,false,false,false,false] rfl rfl (by kernel_rfl) (fun _ _ _ h=>h) (Or.inl ⟨by rfl,?_⟩) ?_ ?_
       rotate_left
       ·intro w'
        go_simp
        with_reducible rfl
       rotate_left
       ·simp only[Act.put,List.setIfInBounds_toArray,List.set_cons_zero,List.set_cons_succ,i64_w,i32_w]
        rfl
       refine pure_ (i:=5) (N:=some 66) (v:= ?_) (a':= ?_) #[true,false,true,true,false,true,false,false,false,false,false,false,false,false] rfl rfl (by kernel_rfl) (fun _ _ _ h=>h) (Or.inl ⟨by rfl,?_⟩) ?_ ?_
       rotate_left
       ·intro w'
        go_simp
        with_reducible rfl
       rotate_left
       ·simp only[Act.put,List.setIfInBounds_toArray,List.set_cons_zero,List.set_cons_succ,i64_w,i32_w]
        rfl
       refine pure_ (i:=8) (N:=some 69) (v:= ?_) (a':= ?_) #[true,false,true,true,false,true,false,false,true,false,false,false,false,false] rfl rfl (by kernel_rfl) (fun _ _ _ h=>h) (Or.inl ⟨by rfl,?_⟩) ?_ ?_
       rotate_left
       ·intro w'
        go_simp
        with_reducible rfl
       rotate_left
       ·simp only[Act.put,List.setIfInBounds_toArray,List.set_cons_zero,List.set_cons_succ,i64_w,i32_w]
        rfl
       refine pure_ (i:=9) (N:=some 70) (v:= ?_) (a':= ?_) #[true,false,true,true,false,true,false,false,true,true,false,false,false,false] rfl rfl (by kernel_rfl) (fun _ _ _ h=>h) (Or.inl ⟨by rfl,?_⟩) ?_ ?_
       rotate_left
       ·intro w'
        go_simp
        with_reducible rfl
       rotate_left
       ·simp only[Act.put,List.setIfInBounds_toArray,List.set_cons_zero,List.set_cons_succ,i64_w,i32_w]
        rfl
       refine take_ (i:=1) (N:=some 62) (v:= ?_) (a':= ?_) #[true,true,true,true,false,true,false,false,true,true,false,false,false,false] rfl rfl (by kernel_rfl) (fun _ _ _ h=>h) (Or.inl ⟨by rfl,?_⟩) hHeld ?_ ?_
       rotate_left
       ·rintro w' ⟨s0,s1⟩
        go_simp
        with_reducible rfl
       rotate_left
       ·simp only[Act.put,List.setIfInBounds_toArray,List.set_cons_zero,List.set_cons_succ,i64_w,i32_w]
        rfl
       refine take_ (i:=4) (N:=some 65) (v:= ?_) (a':= ?_) #[true,true,true,true,true,true,false,false,true,true,false,false,false,false] rfl rfl (by kernel_rfl) (fun _ _ _ h=>h) (Or.inl ⟨by rfl,?_⟩) hHeld ?_ ?_
       rotate_left
       ·rintro w' ⟨s0,s1⟩
        go_simp
        with_reducible rfl
       rotate_left
       ·simp only[Act.put,List.setIfInBounds_toArray,List.set_cons_zero,List.set_cons_succ,i64_w,i32_w]
        rfl
       refine pure_ (i:=6) (N:=some 67) (v:= ?_) (a':= ?_) #[true,true,true,true,true,true,true,false,true,true,false,false,false,false] rfl rfl (by kernel_rfl) (fun _ _ _ h=>h) (Or.inl ⟨by rfl,?_⟩) ?_ ?_
       rotate_left
       ·intro w'
        go_simp
        with_reducible rfl
       rotate_left
       ·simp only[Act.put,List.setIfInBounds_toArray,List.set_cons_zero,List.set_cons_succ,i64_w,i32_w]
        rfl
       refine take_ (i:=7) (N:=some 68) (v:= ?_) (a':= ?_) #[true,true,true,true,true,true,true,true,true,true,false,false,false,false] rfl rfl (by kernel_rfl) (fun _ _ _ h=>h) (Or.inl ⟨by rfl,?_⟩) hHeld ?_ ?_
       rotate_left
       ·rintro w' ⟨s0,s1⟩
        go_simp
        with_reducible rfl
       rotate_left
       ·simp only[Act.put,List.setIfInBounds_toArray,List.set_cons_zero,List.set_cons_succ,i64_w,i32_w]
        rfl
       refine one_ (i:=10) (N:=some 71) #[true,true,true,true,true,true,true,true,true,true,true,false,false,false] rfl rfl (by kernel_rfl) (by decide) (fun K hK=> ?_);refine value_ (w1:= ?_) (v:= ?_) (by rfl) rfl ?_ ?_
       rotate_left 2
       ·go_simp
        constructor
        ·rfl
        ·rfl
       refine hK.out _ _ ⟨(blk_cell (blk_alloc BK5.out _) 4).trans rfl,(World.cell?_alloc_lt _ _ _ (World.block_lt_of_cell? _ _ hHeld.2)).trans hHeld.2⟩ (fun hHeld2=> ?_);clear hK K hHeld2;refine norm_ (a':= ?_) ?_ ?_
       rotate_left
       ·show Act.put _ (some 71) _=_
        simp only[Act.put,List.setIfInBounds_toArray,List.set_cons_zero,List.set_cons_succ,i64_w,i32_w];rfl
       refine one_ (i:=11) (N:=some 72) #[true,true,true,true,true,true,true,true,true,true,true,true,false,false] rfl rfl (by kernel_rfl) (by decide) (fun K hK=> ?_);refine Kd.R_append_step k79 (w0:=w) w.heap.size (by rfl) (.tmp 68) (.tmp 71) 67 79 (.agg #[(.int .i64 0),(.bool false)]) 16 rfl Try.underlying67 info79 rfl (by decide) (by omega) (.slice Ar RW.length cr) RW (⟨xj,true⟩:S79) [.int .i64 xj, .bool true] (fun k_=>oki k_∨((fun _=>True)) k_∧w14.heap.size≤k_) (fun _=>False) rfl rfl ?aP (fun _ hk=>hk.elim) ?aF ?aO ?aB ?aS ?aL ?_
       (case aP=>exact k79_mkM _ _ _ (⟨xj,true⟩:S79))
       (case aF=>exact fun k_ hk=> .inr ⟨trivial,hk⟩)
       (case aO=>exact Kd.R_mono UU.out (fun _ hk=> .inl hk))
       (case aB=>exact HB.out)
       (case aS=>exact HB.out.size)
       (case aL=>have:=HRL.out;omega)
       intro v_ w16 ho hb hg hat
       clear hat
       have m0_:=Aside0.mk (blk_grown BK111.out hg (Kd.R_ne UU.out BK111.out (by decide)));have m1_:=Aside0.mk (blk_grown BK4.out hg (Kd.R_ne UU.out BK4.out (by decide)));have m2_:=Aside0.mk (blk_grown BK5.out hg (Kd.R_ne UU.out BK5.out (by decide)));have m3_:=Aside0.mk (Kd.S_over' Hv21.out (Kd.R_typed UU.out) (by decide) hg);have m4_:=Aside0.mk (Kd.S_over' Hv23.out (Kd.R_typed UU.out) (by decide) hg);have m5_:=Aside0.mk (Kd.R_over' HLL1.out (Kd.R_typed UU.out) (by decide) hg);have m6_:=Aside0.mk (Kd.H_grown (Kd.H_widen HH.out) hg (fun k_ e_=> .inl (UU.out.1 k_ e_)));have m7_:=Aside0.mk (hb);have m8_:=Aside0.mk (ho);clear BK111 BK4 BK5 Hv21 Hv23 HLL1 HH HB UU;have BK111:=m0_;clear m0_;have BK4:=m1_;clear m1_;have BK5:=m2_;clear m2_;have Hv21:=m3_;clear m3_;have Hv23:=m4_;clear m4_;have HLL1:=m5_;clear m5_;have HH:=m6_;clear m6_;have HB:=m7_;clear m7_;have UU:=m8_;clear m8_;rw[← HST.out] at UU;obtain⟨A2,c2,e2⟩:=Kd.R_slice UU.out;subst e2;obtain⟨_,_,hraw,_,_,hcc_,_⟩:=Kd.H_raw HH.out pk qk;obtain⟨_,hfr_⟩:=Kd.H_at HH.out pk qk;have hx4:=hcc_ 0 _ rfl;have hf4:=hfr_ 0;rw[show ((Kd.slice 79 k79)).sz=1 from rfl,Nat.mul_one,Nat.add_zero,Int.toNat_natCast] at hx4 hf4;have HRAW:=Aside0.mk hraw;clear hcc_ hfr_ hraw ho hb hg;refine hK.out _ _ ⟨(blk_cell BK5.out 4).trans rfl,hx4⟩ (fun hHeld=> ?_);clear hK K;refine norm_ (a':= ?_) ?_ ?_
       rotate_left
       ·show Act.put _ (some 72) _=_
        simp only[Act.put,List.setIfInBounds_toArray,List.set_cons_zero,List.set_cons_succ,i64_w,i32_w];rfl
       refine pure_ (i:=12) (N:=some 73) (v:= ?_) (a':= ?_) #[true,true,true,true,true,true,true,true,true,true,true,true,true,false] rfl rfl (by kernel_rfl) (fun _ _ _ h=>h) (Or.inl ⟨by rfl,?_⟩) ?_ ?_
       rotate_left
       ·intro w'
        go_simp
        with_reducible rfl
       rotate_left
       ·simp only[Act.put,List.setIfInBounds_toArray,List.set_cons_zero,List.set_cons_succ,i64_w,i32_w]
        rfl
       have HP:=Kd.S_seg0 HH.out pk qk (seg:=[.slice A2 RW2.length c2]) (j:=0) (show 1≤1 from by decide) (x':=RW2) (Kd.M_row UU.out) (fun _ hk=>hk);rw[show ((Kd.slice 79 k79)).sz=1 from rfl,Nat.mul_one,Nat.add_zero,Int.toNat_natCast,List.set_set] at HP;have HG2:w16.grownBy (w16.setCell ⟨go,k,none⟩ (.slice A2 RW2.length c2)) (some go):=HP.2;have HO:=Aside0.mk (show Kd.S (Kd.slice 79 k79) 67 (w16.setCell ⟨go,k,none⟩ (.slice A2 RW2.length c2)) w.heap.size (fun _=>True) (.slice (some ⟨go,0,none⟩) n0 co) ((rowsAt l0_2 n0 k).set k RW2) from HP.1);refine last_ (i:=13) (N:=none) #[true,true,true,true,true,true,true,true,true,true,true,true,true,true] rfl rfl (by kernel_rfl) (by decide) (fun K hK=> ?_);refine skip_ (w1:=w16.setCell ⟨go,k,none⟩ (.slice A2 RW2.length c2)) (by rfl) rfl ?_ ?_
       ·go_simp
       refine hK.out _ _ ?_;clear hK K;have m0_:=Aside0.mk (blk_grown BK111.out HG2 (Kd.R_ne HRAW.out BK111.out (by decide)));have m1_:=Aside0.mk (blk_grown BK4.out HG2 (Kd.R_ne HRAW.out BK4.out (by decide)));have m2_:=Aside0.mk (blk_grown BK5.out HG2 (Kd.R_ne HRAW.out BK5.out (by decide)));have m3_:=Aside0.mk (Kd.S_over' Hv21.out (Kd.R_typed HRAW.out) (by decide) HG2);have m4_:=Aside0.mk (Kd.S_over' Hv23.out (Kd.R_typed HRAW.out) (by decide) HG2);have m5_:=Aside0.mk (Kd.R_over' HLL1.out (Kd.R_typed HRAW.out) (by decide) HG2);have m6_:=Aside0.mk ((below_set HB.out GBO.out:Below w.heap.size w (w16.setCell ⟨go,k,none⟩ (.slice A2 RW2.length c2))));clear BK111 BK4 BK5 Hv21 Hv23 HLL1 HB;have BK111:=m0_;clear m0_;have BK4:=m1_;clear m1_;have BK5:=m2_;clear m2_;have Hv21:=m3_;clear m3_;have Hv23:=m4_;clear m4_;have HLL1:=m5_;clear m5_;have HB:=m6_;clear m6_;clear HP HG2 HRAW UU HH hHeld hx4 hf4;refine done_ (by kernel_rfl) ?_;generalize w16.setCell ⟨go,k,none⟩ (.slice A2 RW2.length c2)=w17 at HO BK111 BK4 BK5 Hv21 Hv23 HLL1 HB ⊢;rw[HRW2.out] at HO;clear HRW2 HST HRW;go_wp2_with fail;go_roundw
       case rel=>exact⟨j+1,by omega,by first|rfl|go_num,HO,BK111,BK4,BK5,Hv21,Hv23,HLL1,HB⟩
       case measure=>simp[intOf]<;>omega
      ·have ej:j=LL1.length:=by omega
       subst ej;rw[List.take_length] at HO;have cj:decide ((LL1.length:Int)<(LL1.length:Int))=false:=decide_eq_false (by omega);obtain⟨RW,hRW⟩: ∃ r_,r_=((([]:List S79) ++ LL0.map (fun i=>(⟨i,false⟩:S79))) ++ LL1.map (fun i=>(⟨i,true⟩:S79))):=⟨_,rfl⟩;have HRU:Aside0 (RW=stepsU l0_2 n0 (k:Int)):=⟨by rw[hRW,HELL0.out,HELL1.out,HL0.out,HL1.out];rfl⟩;have HRL:Aside0 (RW.length≤1000000):=⟨by rw[hRW];simp;have:=HLE0.out;have:=HLE1.out;omega⟩;rw[← hRW] at HO;clear hRW;obtain⟨oki,c_,_,hM_,hcc_,_,_,hH_⟩:=Kd.S_elem HO.out [] (k:Int) pk qk;obtain⟨vr,rfl,hR_⟩:=hM_;rw[show ((rowsAt l0_2 n0 k).set k RW).getD (k:Int).toNat []=RW from rd_set (rowsAt l0_2 n0 k) k RW (by rw[rowsAt_len];exact hlt)] at hR_;obtain⟨Ar,cr,er⟩:=Kd.R_slice hR_;subst er;have hx4:=hcc_ 0 _ rfl;rw[show ((Kd.slice 79 k79)).sz=1 from rfl,Nat.mul_one,Nat.add_zero,Int.toNat_natCast] at hx4;have UU:=Aside0.mk hR_;have HH:=Aside0.mk hH_;clear hcc_ hR_ hH_;have hx5:wr.cell? ⟨gb5,4,none⟩=some (.slice (some ⟨go,0,none⟩) n0 co):=(blk_cell BK5.out 4).trans rfl;have HEN:Aside0 (ends l0_2 n0):=⟨fun i hi=>⟨HE0.out i hi,HE1.out i hi⟩⟩;go_wp2_with (first|(go_at_call 85;refine(sort_row HH.out UU.out HRU.out hlt HEN.out (by omega) HRL.out).mono ?_;rintro e_ w20 ⟨rfl,vv,hg,hty,hS⟩;rw[List.set_set,rowsAt_set l0_2 n0 k hlt] at hS;have m0_:=Aside0.mk (blk_grown BK111.out hg (fun he=>by obtain⟨_,cells_,hc_⟩:=hty _ he.symm;have t_:=BK111.out.symm.trans hc_;simp at t_));have m1_:=Aside0.mk (blk_grown BK4.out hg (fun he=>by obtain⟨_,cells_,hc_⟩:=hty _ he.symm;have t_:=BK4.out.symm.trans hc_;simp at t_));have m2_:=Aside0.mk (blk_grown BK5.out hg (fun he=>by obtain⟨_,cells_,hc_⟩:=hty _ he.symm;have t_:=BK5.out.symm.trans hc_;simp at t_));have m3_:=Aside0.mk (Kd.S_over' (v:=vv) Hv21.out (fun k_ hk_=>(hty k_ hk_).2) (by decide) hg);have m4_:=Aside0.mk (Kd.S_over' (v:=vv) Hv23.out (fun k_ hk_=>(hty k_ hk_).2) (by decide) hg);have m5_:=Aside0.mk (HB.out.grown hg HB.out.size (fun k_ hk_=>(hty k_ hk_).1));have m6_:=Aside0.mk hS;clear hg hty hS HO BK111 BK4 BK5 Hv21 Hv23 HLL1 HB UU HH hx4 hx5;have HO:=m6_;have BK111:=m0_;have BK4:=m1_;have BK5:=m2_;have Hv21:=m3_;have Hv23:=m4_;have HB:=m5_;clear m0_ m1_ m2_ m3_ m4_ m5_ m6_)|fail);go_roundw
       case rel=>exact⟨k+1,by omega,by first|rfl|go_num,HO,BK111,BK4,BK5,Hv21,Hv23,HB⟩
       case measure=>simp[intOf]<;>omega
  ·have ek:n0=k:=by omega
   subst ek;have hx0:wr.cell? ⟨gb5,0,none⟩=some (.int .i64 (n0:Int)):=(blk_cell BK5.out 0).trans rfl;have hx1:wr.cell? ⟨gb5,1,none⟩=some (.bool a0_1):=(blk_cell BK5.out 1).trans rfl;have hx2:wr.cell? ⟨gb5,2,none⟩=some (.slice A0_2 l0_2.length c0_2):=(blk_cell BK5.out 2).trans rfl;have hx3:wr.cell? ⟨gb5,3,none⟩=some (.slice A1 n1 c1):=(blk_cell BK5.out 3).trans rfl;have hx4:wr.cell? ⟨gb5,4,none⟩=some (.slice Ao n0 co):=(blk_cell BK5.out 4).trans rfl;have hy0:wr.cell? ⟨gb4,0,none⟩=some (.int .i64 0):=(blk_cell BK4.out 0).trans rfl;have hf0:=blk_frozen BK4.out 0;have hy1:wr.cell? ⟨gb4,1,none⟩=some (.bool false):=(blk_cell BK4.out 1).trans rfl;have hf1:=blk_frozen BK4.out 1;have hy2:wr.cell? ⟨gb4,2,none⟩=some (.slice none 0 0):=(blk_cell BK4.out 2).trans rfl;have hf2:=blk_frozen BK4.out 2;have hy3:wr.cell? ⟨gb4,3,none⟩=some (.slice none 0 0):=(blk_cell BK4.out 3).trans rfl;have hf3:=blk_frozen BK4.out 3;have hy4:wr.cell? ⟨gb4,4,none⟩=some (.slice none 0 0):=(blk_cell BK4.out 4).trans rfl;have hf4:=blk_frozen BK4.out 4;have GE4':=GE4.out;go_wp2;refine bodyPost_ret (results_cell_row rfl _ _ gb4 107 #[.int .i64 (n0:Int), .bool a0_1, .slice A0_2 l0_2.length c0_2, .slice A1 n1 c1, .slice Ao n0 co] (0,0) _ rfl (by refine blk_put (cs:= #[.int .i64 (n0:Int), .bool a0_1, .slice A0_2 l0_2.length c0_2, .slice A1 n1 c1, .slice none 0 0]) ?_ 4 _ rfl;refine blk_put (cs:= #[.int .i64 (n0:Int), .bool a0_1, .slice A0_2 l0_2.length c0_2, .slice none 0 0, .slice none 0 0]) ?_ 3 _ rfl;refine blk_put (cs:= #[.int .i64 (n0:Int), .bool a0_1, .slice none 0 0, .slice none 0 0, .slice none 0 0]) ?_ 2 _ rfl;refine blk_put (cs:= #[.int .i64 (n0:Int), .bool false, .slice none 0 0, .slice none 0 0, .slice none 0 0]) ?_ 1 _ rfl;refine blk_put (cs:= #[.int .i64 0, .bool false, .slice none 0 0, .slice none 0 0, .slice none 0 0]) ?_ 0 _ rfl;exact BK4.out) Try.underlying107 rfl (by kernel_rfl)) rfl ?_;exact⟨_,rfl,Kd.S_mono (Kd.S_far (p:=⟨gb4,4,none⟩) (Kd.S_far (p:=⟨gb4,3,none⟩) (Kd.S_far (p:=⟨gb4,2,none⟩) (Kd.S_far (p:=⟨gb4,1,none⟩) (Kd.S_far (p:=⟨gb4,0,none⟩) (Kd.S_types HO.out BK4.out (by decide)) (fun _ hk=>hk.2) (.int .i64 (n0:Int))) (fun _ hk=>hk.2) (.bool a0_1)) (fun _ hk=>hk.2) (.slice A0_2 l0_2.length c0_2)) (fun _ hk=>hk.2) (.slice A1 n1 c1)) (fun _ hk=>hk.2) (.slice Ao n0 co)) (fun _ _=>trivial),by repeat(first|exact HB.out|refine below_set ?_ GE4.out)⟩
end H
namespace P
attribute [local go_sem] max2_int min2_int max_two min_two max_three min_three max_four min_four
def ebbtideref07_Ends.f (k:Nat) (Zb:Int) (Zc:Bool) (Za:List (S50)) (a1:Int) (a2:Int):Option (Int):=(ebbtideref05_Check.f k Zb Zc Za).bind fun t192=>(if t192=0 then((ebbtideref06_Node.f Zb Zc Za a1).bind fun t193=>(if t193=true then((ebbtideref06_Node.f Zb Zc Za a2).bind fun t194=>(if t194=true then(if a1=a2 then(some 70) else(some 0)) else(some 70))) else(some 70))) else(some t192))
set_option maxHeartbeats 8000000 in
set_option maxRecDepth 100000 in
theorem ebbtideref07_Ends.calls (k:Nat) (Zb:Int) (Zc:Bool) (Ze:Option Addr) (Zd:Nat) (Za:List (S50)) (a1:Int) (a2:Int) (r:Int) (w:World) (Zq:Kd.C k50 w Ze Za.length Za) (Zr:Za.length≤Zd) (h:ebbtideref07_Ends.f k Zb Zc Za a1 a2=some r):
  Calls Try.prog 27 #[.agg #[.int .i64 Zb, .bool Zc, .slice Ze Za.length Zd], .int .i64 a1, .int .i64 a2] w fun e w'=>e= .returned (.int .i64 r)∧Below w.heap.size w w':=by
 have hu24:=Try.underlying24;have Zk:=Ya Zq;have Zw:=Ya Zr;clear Zq Zr;have HB:=Ya (Yo w.heap.size w);have H:((ebbtideref05_Check.f k Zb Zc Za).bind fun t192=>(if t192=0 then((ebbtideref06_Node.f Zb Zc Za a1).bind fun t193=>(if t193=true then((ebbtideref06_Node.f Zb Zc Za a2).bind fun t194=>(if t194=true then(if a1=a2 then(some 70) else(some 0)) else(some 70))) else(some 70))) else(some t192)))=some r:=h;clear h;replace H:=Option.bind_eq_some_iff.mp H;obtain⟨t192,A40,H⟩:=H;replace H:(if t192=0 then((ebbtideref06_Node.f Zb Zc Za a1).bind fun t193=>(if t193=true then((ebbtideref06_Node.f Zb Zc Za a2).bind fun t194=>(if t194=true then(if a1=a2 then(some 70) else(some 0)) else(some 70))) else(some 70))) else(some t192))=some r:=H;have A4:=Ya A40;clear A40;by_cases c5:t192=0
 rotate_left
 ·rw[Yy c5] at H
  have c5b0:(t192 == 0)=false:=beq_eq_false_iff_ne.mpr c5;have c5b1:(t192 != 0)=true:=bne_iff_ne.mpr c5;obtain rfl:=Option.some.inj H;go_enter Try.func27,Try.ntmps27;go_wp2_with (first|((with_reducible refine gate_dst (N:=3) rfl ?_);refine Yz ?hg (N:=3) ?hd (cs:= #[.int .i64 Zb, .bool Zc, .slice Ze Za.length Zd]) (t:=24) ?hr ?_;(case hd=>rfl);(case hg=>rfl);(case hr=>first|(go_simp;done)|(go_simp;rfl));intro Zx hg w37 Zg hb;have n0_:=Ya (Yk (by repeat(first|(with_reducible first|exact HB.out|apply Ye|apply Yd|apply Yg)|exact HB.out)) hb);have n1_:=Ya (Zg);have n2_:=Ya ((by rw[hg];exact(Yi (by repeat(first|(with_reducible first|exact HB.out|apply Ye|apply Yd|apply Yg)|exact HB.out))):w.heap.size≤Zx));have n3_:=Ya ((by rw[hg];exact(Yi (by repeat(first|(with_reducible first|exact HB.out|apply Ye|apply Yd|apply Yg)|exact HB.out))):w.heap.size≤Zx));clear HB;have HB:=n0_;have Zi:=n1_;have GW191:=n2_;have Vs:=n3_;clear n0_ n1_ n2_ n3_;clear hb Zg hg;have hcz38_0:w37.cell? ⟨Zx,0,none⟩=some (.int .i64 Zb):=(Yc Zi.out 0).trans rfl;have hcz38_1:w37.cell? ⟨Zx,1,none⟩=some (.bool Zc):=(Yc Zi.out 1).trans rfl;have hcz38_2:w37.cell? ⟨Zx,2,none⟩=some (.slice Ze Za.length Zd):=(Yc Zi.out 2).trans rfl;have hfz38_0:=Yf Zi.out 0;have hfz38_1:=Yf Zi.out 1;have hfz38_2:=Yf Zi.out 2)|((with_reducible refine gate_callee (f:=30) rfl ?_);refine goesL_ (some 9) rfl rfl Try.func30 (by kernel_rfl) rfl #[.agg #[.int .i64 Zb, .bool Zc, .slice Ze Za.length Zd]] rfl (by(try simp only[List.map_toArray,List.map_cons,List.map_nil]);first|done|rfl|(simp only[List.length_drop,List.length_take];rfl)) ?_;(with_reducible refine(ebbtideref05_Check.calls k Zb Zc _ _ Za t192 _ ?side1 ?side2 A4.out).mono ?_);(case side1=>repeat(first|exact(Yt Zk.out HB.out)|(with_reducible refine Kd.C_alloc ?_ _)|(with_reducible refine Kd.C_drewN ?_ _)|(with_reducible refine Kd.C_drew ?_)));(case side2=>exact Zw.out);rintro e w39 ⟨rfl,hb⟩;refine⟨_,rfl,?_⟩;have n0_:=Ya (Yn (g:=Zx) (o:= .cells #[.int .i64 Zb, .bool Zc, .slice Ze Za.length Zd] 24 (0,0)) (by(with_reducible repeat(first|refine Yl ?_ _|refine Ym ?_|refine Yj ?_ _));exact Zi.out) hb);have n1_:=Ya (Yk (by repeat(first|(with_reducible first|exact HB.out|apply Ye|apply Yd|apply Yg|refine Yh ?_ Vs.out)|exact HB.out)) hb);clear Zi;clear HB;have Zi:=n0_;have HB:=n1_;clear n0_ n1_;(try clear hb);(try clear hb2);(try clear hk);(try clear hi)));go_ret;exact⟨by first|rfl|(simp[errW_none,errW_some]<;>rfl)|(simp[*,errW_none,errW_some]<;>rfl),by repeat(first|(with_reducible first|exact HB.out|apply Ye|apply Yd|apply Yg|refine Yh ?_ Vs.out)|exact HB.out)⟩
 rw[Yx c5] at H;have c5b0:(t192 == 0)=true:=beq_iff_eq.mpr c5;have c5b1:(t192 != 0)=false:=bne_eq_false_iff_eq.mpr c5;clear c5;replace H:=Option.bind_eq_some_iff.mp H;obtain⟨t193,A60,H⟩:=H;replace H:(if t193=true then((ebbtideref06_Node.f Zb Zc Za a2).bind fun t194=>(if t194=true then(if a1=a2 then(some 70) else(some 0)) else(some 70))) else(some 70))=some r:=H;have A6:=Ya A60;clear A60;by_cases c7:t193=true
 rotate_left
 ·replace c7:=Bool.eq_false_iff.mpr c7
  subst c7;have H1:(some 70)=some r:=by rw[Yy (show ¬ (false=true) by decide)] at H;exact H
  clear H;have H:=H1;clear H1;obtain rfl:=Option.some.inj H;go_enter Try.func27,Try.ntmps27;go_wp2_with (first|((with_reducible refine gate_dst (N:=3) rfl ?_);refine Yz ?hg (N:=3) ?hd (cs:= #[.int .i64 Zb, .bool Zc, .slice Ze Za.length Zd]) (t:=24) ?hr ?_;(case hd=>rfl);(case hg=>rfl);(case hr=>first|(go_simp;done)|(go_simp;rfl));intro Zx hg w32 Zg hb;have n0_:=Ya (Yk (by repeat(first|(with_reducible first|exact HB.out|apply Ye|apply Yd|apply Yg)|exact HB.out)) hb);have n1_:=Ya (Zg);have n2_:=Ya ((by rw[hg];exact(Yi (by repeat(first|(with_reducible first|exact HB.out|apply Ye|apply Yd|apply Yg)|exact HB.out))):w.heap.size≤Zx));have n3_:=Ya ((by rw[hg];exact(Yi (by repeat(first|(with_reducible first|exact HB.out|apply Ye|apply Yd|apply Yg)|exact HB.out))):w.heap.size≤Zx));clear HB;have HB:=n0_;have Zi:=n1_;have GW191:=n2_;have Vs:=n3_;clear n0_ n1_ n2_ n3_;clear hb Zg hg;have hcz33_0:w32.cell? ⟨Zx,0,none⟩=some (.int .i64 Zb):=(Yc Zi.out 0).trans rfl;have hcz33_1:w32.cell? ⟨Zx,1,none⟩=some (.bool Zc):=(Yc Zi.out 1).trans rfl;have hcz33_2:w32.cell? ⟨Zx,2,none⟩=some (.slice Ze Za.length Zd):=(Yc Zi.out 2).trans rfl;have hfz33_0:=Yf Zi.out 0;have hfz33_1:=Yf Zi.out 1;have hfz33_2:=Yf Zi.out 2)|((with_reducible refine gate_callee (f:=30) rfl ?_);refine goesL_ (some 9) rfl rfl Try.func30 (by kernel_rfl) rfl #[.agg #[.int .i64 Zb, .bool Zc, .slice Ze Za.length Zd]] rfl (by(try simp only[List.map_toArray,List.map_cons,List.map_nil]);first|done|rfl|(simp only[List.length_drop,List.length_take];rfl)) ?_;(with_reducible refine(ebbtideref05_Check.calls k Zb Zc _ _ Za t192 _ ?side1 ?side2 A4.out).mono ?_);(case side1=>repeat(first|exact(Yt Zk.out HB.out)|(with_reducible refine Kd.C_alloc ?_ _)|(with_reducible refine Kd.C_drewN ?_ _)|(with_reducible refine Kd.C_drew ?_)));(case side2=>exact Zw.out);rintro e w34 ⟨rfl,hb⟩;refine⟨_,rfl,?_⟩;have n0_:=Ya (Yn (g:=Zx) (o:= .cells #[.int .i64 Zb, .bool Zc, .slice Ze Za.length Zd] 24 (0,0)) (by(with_reducible repeat(first|refine Yl ?_ _|refine Ym ?_|refine Yj ?_ _));exact Zi.out) hb);have n1_:=Ya (Yk (by repeat(first|(with_reducible first|exact HB.out|apply Ye|apply Yd|apply Yg|refine Yh ?_ Vs.out)|exact HB.out)) hb);clear Zi;clear HB;have Zi:=n0_;have HB:=n1_;clear n0_ n1_;(try clear hb);(try clear hb2);(try clear hk);(try clear hi);have hcz35_0:w34.cell? ⟨Zx,0,none⟩=some (.int .i64 Zb):=(Yc Zi.out 0).trans rfl;have hcz35_1:w34.cell? ⟨Zx,1,none⟩=some (.bool Zc):=(Yc Zi.out 1).trans rfl;have hcz35_2:w34.cell? ⟨Zx,2,none⟩=some (.slice Ze Za.length Zd):=(Yc Zi.out 2).trans rfl;have hfz35_0:=Yf Zi.out 0;have hfz35_1:=Yf Zi.out 1;have hfz35_2:=Yf Zi.out 2)|((with_reducible refine gate_callee (f:=58) rfl ?_);refine goesL_ (some 15) rfl rfl Try.func58 (by kernel_rfl) rfl #[.agg #[.int .i64 Zb, .bool Zc, .slice Ze Za.length Zd], .int .i64 a1] rfl (by(try simp only[List.map_toArray,List.map_cons,List.map_nil]);first|done|rfl|(simp only[List.length_drop,List.length_take];rfl)) ?_;(with_reducible refine(ebbtideref06_Node.calls Zb Zc _ _ Za a1 false _ ?side1 ?side2 A6.out).mono ?_);(case side1=>repeat(first|exact(Yt Zk.out HB.out)|(with_reducible refine Kd.C_alloc ?_ _)|(with_reducible refine Kd.C_drewN ?_ _)|(with_reducible refine Kd.C_drew ?_)));(case side2=>exact Zw.out);rintro e w36 ⟨rfl,hb⟩;refine⟨_,rfl,?_⟩;have n0_:=Ya (Yn (g:=Zx) (o:= .cells #[.int .i64 Zb, .bool Zc, .slice Ze Za.length Zd] 24 (0,0)) (by(with_reducible repeat(first|refine Yl ?_ _|refine Ym ?_|refine Yj ?_ _));exact Zi.out) hb);have n1_:=Ya (Yk (by repeat(first|(with_reducible first|exact HB.out|apply Ye|apply Yd|apply Yg|refine Yh ?_ Vs.out)|exact HB.out)) hb);clear Zi;clear HB;have Zi:=n0_;have HB:=n1_;clear n0_ n1_;(try clear hb);(try clear hb2);(try clear hk);(try clear hi)));go_ret;exact⟨by first|rfl|(simp[errW_none,errW_some]<;>rfl)|(simp[*,errW_none,errW_some]<;>rfl),by repeat(first|(with_reducible first|exact HB.out|apply Ye|apply Yd|apply Yg|refine Yh ?_ Vs.out)|exact HB.out)⟩
 subst c7;have H1:((ebbtideref06_Node.f Zb Zc Za a2).bind fun t194=>(if t194=true then(if a1=a2 then(some 70) else(some 0)) else(some 70)))=some r:=by first|(rw[Yx rfl] at H;exact H)|(rw[Yx trivial] at H;exact H)
 clear H;have H:=H1;clear H1;replace H:=Option.bind_eq_some_iff.mp H;obtain⟨t194,A80,H⟩:=H;replace H:(if t194=true then(if a1=a2 then(some 70) else(some 0)) else(some 70))=some r:=H;have A8:=Ya A80;clear A80;by_cases c9:t194=true
 rotate_left
 ·replace c9:=Bool.eq_false_iff.mpr c9
  subst c9;have H1:(some 70)=some r:=by rw[Yy (show ¬ (false=true) by decide)] at H;exact H
  clear H;have H:=H1;clear H1;obtain rfl:=Option.some.inj H;go_enter Try.func27,Try.ntmps27;go_wp2_with (first|((with_reducible refine gate_dst (N:=3) rfl ?_);refine Yz ?hg (N:=3) ?hd (cs:= #[.int .i64 Zb, .bool Zc, .slice Ze Za.length Zd]) (t:=24) ?hr ?_;(case hd=>rfl);(case hg=>rfl);(case hr=>first|(go_simp;done)|(go_simp;rfl));intro Zx hg w25 Zg hb;have n0_:=Ya (Yk (by repeat(first|(with_reducible first|exact HB.out|apply Ye|apply Yd|apply Yg)|exact HB.out)) hb);have n1_:=Ya (Zg);have n2_:=Ya ((by rw[hg];exact(Yi (by repeat(first|(with_reducible first|exact HB.out|apply Ye|apply Yd|apply Yg)|exact HB.out))):w.heap.size≤Zx));have n3_:=Ya ((by rw[hg];exact(Yi (by repeat(first|(with_reducible first|exact HB.out|apply Ye|apply Yd|apply Yg)|exact HB.out))):w.heap.size≤Zx));clear HB;have HB:=n0_;have Zi:=n1_;have GW191:=n2_;have Vs:=n3_;clear n0_ n1_ n2_ n3_;clear hb Zg hg;have hcz26_0:w25.cell? ⟨Zx,0,none⟩=some (.int .i64 Zb):=(Yc Zi.out 0).trans rfl;have hcz26_1:w25.cell? ⟨Zx,1,none⟩=some (.bool Zc):=(Yc Zi.out 1).trans rfl;have hcz26_2:w25.cell? ⟨Zx,2,none⟩=some (.slice Ze Za.length Zd):=(Yc Zi.out 2).trans rfl;have hfz26_0:=Yf Zi.out 0;have hfz26_1:=Yf Zi.out 1;have hfz26_2:=Yf Zi.out 2)|((with_reducible refine gate_callee (f:=30) rfl ?_);refine goesL_ (some 9) rfl rfl Try.func30 (by kernel_rfl) rfl #[.agg #[.int .i64 Zb, .bool Zc, .slice Ze Za.length Zd]] rfl (by(try simp only[List.map_toArray,List.map_cons,List.map_nil]);first|done|rfl|(simp only[List.length_drop,List.length_take];rfl)) ?_;(with_reducible refine(ebbtideref05_Check.calls k Zb Zc _ _ Za t192 _ ?side1 ?side2 A4.out).mono ?_);(case side1=>repeat(first|exact(Yt Zk.out HB.out)|(with_reducible refine Kd.C_alloc ?_ _)|(with_reducible refine Kd.C_drewN ?_ _)|(with_reducible refine Kd.C_drew ?_)));(case side2=>exact Zw.out);rintro e w27 ⟨rfl,hb⟩;refine⟨_,rfl,?_⟩;have n0_:=Ya (Yn (g:=Zx) (o:= .cells #[.int .i64 Zb, .bool Zc, .slice Ze Za.length Zd] 24 (0,0)) (by(with_reducible repeat(first|refine Yl ?_ _|refine Ym ?_|refine Yj ?_ _));exact Zi.out) hb);have n1_:=Ya (Yk (by repeat(first|(with_reducible first|exact HB.out|apply Ye|apply Yd|apply Yg|refine Yh ?_ Vs.out)|exact HB.out)) hb);clear Zi;clear HB;have Zi:=n0_;have HB:=n1_;clear n0_ n1_;(try clear hb);(try clear hb2);(try clear hk);(try clear hi);have hcz28_0:w27.cell? ⟨Zx,0,none⟩=some (.int .i64 Zb):=(Yc Zi.out 0).trans rfl;have hcz28_1:w27.cell? ⟨Zx,1,none⟩=some (.bool Zc):=(Yc Zi.out 1).trans rfl;have hcz28_2:w27.cell? ⟨Zx,2,none⟩=some (.slice Ze Za.length Zd):=(Yc Zi.out 2).trans rfl;have hfz28_0:=Yf Zi.out 0;have hfz28_1:=Yf Zi.out 1;have hfz28_2:=Yf Zi.out 2)|((with_reducible refine gate_callee (f:=58) rfl ?_);refine goesL_ (some 15) rfl rfl Try.func58 (by kernel_rfl) rfl #[.agg #[.int .i64 Zb, .bool Zc, .slice Ze Za.length Zd], .int .i64 a1] rfl (by(try simp only[List.map_toArray,List.map_cons,List.map_nil]);first|done|rfl|(simp only[List.length_drop,List.length_take];rfl)) ?_;(with_reducible refine(ebbtideref06_Node.calls Zb Zc _ _ Za a1 true _ ?side1 ?side2 A6.out).mono ?_);(case side1=>repeat(first|exact(Yt Zk.out HB.out)|(with_reducible refine Kd.C_alloc ?_ _)|(with_reducible refine Kd.C_drewN ?_ _)|(with_reducible refine Kd.C_drew ?_)));(case side2=>exact Zw.out);rintro e w29 ⟨rfl,hb⟩;refine⟨_,rfl,?_⟩;have n0_:=Ya (Yn (g:=Zx) (o:= .cells #[.int .i64 Zb, .bool Zc, .slice Ze Za.length Zd] 24 (0,0)) (by(with_reducible repeat(first|refine Yl ?_ _|refine Ym ?_|refine Yj ?_ _));exact Zi.out) hb);have n1_:=Ya (Yk (by repeat(first|(with_reducible first|exact HB.out|apply Ye|apply Yd|apply Yg|refine Yh ?_ Vs.out)|exact HB.out)) hb);clear Zi;clear HB;have Zi:=n0_;have HB:=n1_;clear n0_ n1_;(try clear hb);(try clear hb2);(try clear hk);(try clear hi);have hcz30_0:w29.cell? ⟨Zx,0,none⟩=some (.int .i64 Zb):=(Yc Zi.out 0).trans rfl;have hcz30_1:w29.cell? ⟨Zx,1,none⟩=some (.bool Zc):=(Yc Zi.out 1).trans rfl;have hcz30_2:w29.cell? ⟨Zx,2,none⟩=some (.slice Ze Za.length Zd):=(Yc Zi.out 2).trans rfl;have hfz30_0:=Yf Zi.out 0;have hfz30_1:=Yf Zi.out 1;have hfz30_2:=Yf Zi.out 2)|(go_at_call 58;(with_reducible refine(ebbtideref06_Node.calls Zb Zc _ _ Za a2 false _ ?side1 ?side2 A8.out).mono ?_);(case side1=>repeat(first|exact(Yt Zk.out HB.out)|(with_reducible refine Kd.C_alloc ?_ _)|(with_reducible refine Kd.C_drewN ?_ _)|(with_reducible refine Kd.C_drew ?_)));(case side2=>exact Zw.out);rintro e w31 ⟨rfl,hb⟩;have n0_:=Ya (Yn (g:=Zx) (o:= .cells #[.int .i64 Zb, .bool Zc, .slice Ze Za.length Zd] 24 (0,0)) (by(with_reducible repeat(first|refine Yl ?_ _|refine Ym ?_|refine Yj ?_ _));exact Zi.out) hb);have n1_:=Ya (Yk (by repeat(first|(with_reducible first|exact HB.out|apply Ye|apply Yd|apply Yg|refine Yh ?_ Vs.out)|exact HB.out)) hb);clear Zi;clear HB;have Zi:=n0_;have HB:=n1_;clear n0_ n1_;(try clear hb);(try clear hb2);(try clear hk);(try clear hi)));go_ret;exact⟨by first|rfl|(simp[errW_none,errW_some]<;>rfl)|(simp[*,errW_none,errW_some]<;>rfl),by repeat(first|(with_reducible first|exact HB.out|apply Ye|apply Yd|apply Yg|refine Yh ?_ Vs.out)|exact HB.out)⟩
 subst c9;have H1:(if a1=a2 then(some 70) else(some 0))=some r:=by first|(rw[Yx rfl] at H;exact H)|(rw[Yx trivial] at H;exact H)
 clear H;have H:=H1;clear H1;by_cases c10:a1=a2
 rotate_left
 ·rw[Yy c10] at H
  have c10b0:(a1 == a2)=false:=beq_eq_false_iff_ne.mpr c10;have c10b1:(a1 != a2)=true:=bne_iff_ne.mpr c10;obtain rfl:=Option.some.inj H;go_enter Try.func27,Try.ntmps27;go_wp2_with (first|((with_reducible refine gate_dst (N:=3) rfl ?_);refine Yz ?hg (N:=3) ?hd (cs:= #[.int .i64 Zb, .bool Zc, .slice Ze Za.length Zd]) (t:=24) ?hr ?_;(case hd=>rfl);(case hg=>rfl);(case hr=>first|(go_simp;done)|(go_simp;rfl));intro Zx hg w18 Zg hb;have n0_:=Ya (Yk (by repeat(first|(with_reducible first|exact HB.out|apply Ye|apply Yd|apply Yg)|exact HB.out)) hb);have n1_:=Ya (Zg);have n2_:=Ya ((by rw[hg];exact(Yi (by repeat(first|(with_reducible first|exact HB.out|apply Ye|apply Yd|apply Yg)|exact HB.out))):w.heap.size≤Zx));have n3_:=Ya ((by rw[hg];exact(Yi (by repeat(first|(with_reducible first|exact HB.out|apply Ye|apply Yd|apply Yg)|exact HB.out))):w.heap.size≤Zx));clear HB;have HB:=n0_;have Zi:=n1_;have GW191:=n2_;have Vs:=n3_;clear n0_ n1_ n2_ n3_;clear hb Zg hg;have hcz19_0:w18.cell? ⟨Zx,0,none⟩=some (.int .i64 Zb):=(Yc Zi.out 0).trans rfl;have hcz19_1:w18.cell? ⟨Zx,1,none⟩=some (.bool Zc):=(Yc Zi.out 1).trans rfl;have hcz19_2:w18.cell? ⟨Zx,2,none⟩=some (.slice Ze Za.length Zd):=(Yc Zi.out 2).trans rfl;have hfz19_0:=Yf Zi.out 0;have hfz19_1:=Yf Zi.out 1;have hfz19_2:=Yf Zi.out 2)|((with_reducible refine gate_callee (f:=30) rfl ?_);refine goesL_ (some 9) rfl rfl Try.func30 (by kernel_rfl) rfl #[.agg #[.int .i64 Zb, .bool Zc, .slice Ze Za.length Zd]] rfl (by(try simp only[List.map_toArray,List.map_cons,List.map_nil]);first|done|rfl|(simp only[List.length_drop,List.length_take];rfl)) ?_;(with_reducible refine(ebbtideref05_Check.calls k Zb Zc _ _ Za t192 _ ?side1 ?side2 A4.out).mono ?_);(case side1=>repeat(first|exact(Yt Zk.out HB.out)|(with_reducible refine Kd.C_alloc ?_ _)|(with_reducible refine Kd.C_drewN ?_ _)|(with_reducible refine Kd.C_drew ?_)));(case side2=>exact Zw.out);rintro e w20 ⟨rfl,hb⟩;refine⟨_,rfl,?_⟩;have n0_:=Ya (Yn (g:=Zx) (o:= .cells #[.int .i64 Zb, .bool Zc, .slice Ze Za.length Zd] 24 (0,0)) (by(with_reducible repeat(first|refine Yl ?_ _|refine Ym ?_|refine Yj ?_ _));exact Zi.out) hb);have n1_:=Ya (Yk (by repeat(first|(with_reducible first|exact HB.out|apply Ye|apply Yd|apply Yg|refine Yh ?_ Vs.out)|exact HB.out)) hb);clear Zi;clear HB;have Zi:=n0_;have HB:=n1_;clear n0_ n1_;(try clear hb);(try clear hb2);(try clear hk);(try clear hi);have hcz21_0:w20.cell? ⟨Zx,0,none⟩=some (.int .i64 Zb):=(Yc Zi.out 0).trans rfl;have hcz21_1:w20.cell? ⟨Zx,1,none⟩=some (.bool Zc):=(Yc Zi.out 1).trans rfl;have hcz21_2:w20.cell? ⟨Zx,2,none⟩=some (.slice Ze Za.length Zd):=(Yc Zi.out 2).trans rfl;have hfz21_0:=Yf Zi.out 0;have hfz21_1:=Yf Zi.out 1;have hfz21_2:=Yf Zi.out 2)|((with_reducible refine gate_callee (f:=58) rfl ?_);refine goesL_ (some 15) rfl rfl Try.func58 (by kernel_rfl) rfl #[.agg #[.int .i64 Zb, .bool Zc, .slice Ze Za.length Zd], .int .i64 a1] rfl (by(try simp only[List.map_toArray,List.map_cons,List.map_nil]);first|done|rfl|(simp only[List.length_drop,List.length_take];rfl)) ?_;(with_reducible refine(ebbtideref06_Node.calls Zb Zc _ _ Za a1 true _ ?side1 ?side2 A6.out).mono ?_);(case side1=>repeat(first|exact(Yt Zk.out HB.out)|(with_reducible refine Kd.C_alloc ?_ _)|(with_reducible refine Kd.C_drewN ?_ _)|(with_reducible refine Kd.C_drew ?_)));(case side2=>exact Zw.out);rintro e w22 ⟨rfl,hb⟩;refine⟨_,rfl,?_⟩;have n0_:=Ya (Yn (g:=Zx) (o:= .cells #[.int .i64 Zb, .bool Zc, .slice Ze Za.length Zd] 24 (0,0)) (by(with_reducible repeat(first|refine Yl ?_ _|refine Ym ?_|refine Yj ?_ _));exact Zi.out) hb);have n1_:=Ya (Yk (by repeat(first|(with_reducible first|exact HB.out|apply Ye|apply Yd|apply Yg|refine Yh ?_ Vs.out)|exact HB.out)) hb);clear Zi;clear HB;have Zi:=n0_;have HB:=n1_;clear n0_ n1_;(try clear hb);(try clear hb2);(try clear hk);(try clear hi);have hcz23_0:w22.cell? ⟨Zx,0,none⟩=some (.int .i64 Zb):=(Yc Zi.out 0).trans rfl;have hcz23_1:w22.cell? ⟨Zx,1,none⟩=some (.bool Zc):=(Yc Zi.out 1).trans rfl;have hcz23_2:w22.cell? ⟨Zx,2,none⟩=some (.slice Ze Za.length Zd):=(Yc Zi.out 2).trans rfl;have hfz23_0:=Yf Zi.out 0;have hfz23_1:=Yf Zi.out 1;have hfz23_2:=Yf Zi.out 2)|(go_at_call 58;(with_reducible refine(ebbtideref06_Node.calls Zb Zc _ _ Za a2 true _ ?side1 ?side2 A8.out).mono ?_);(case side1=>repeat(first|exact(Yt Zk.out HB.out)|(with_reducible refine Kd.C_alloc ?_ _)|(with_reducible refine Kd.C_drewN ?_ _)|(with_reducible refine Kd.C_drew ?_)));(case side2=>exact Zw.out);rintro e w24 ⟨rfl,hb⟩;have n0_:=Ya (Yn (g:=Zx) (o:= .cells #[.int .i64 Zb, .bool Zc, .slice Ze Za.length Zd] 24 (0,0)) (by(with_reducible repeat(first|refine Yl ?_ _|refine Ym ?_|refine Yj ?_ _));exact Zi.out) hb);have n1_:=Ya (Yk (by repeat(first|(with_reducible first|exact HB.out|apply Ye|apply Yd|apply Yg|refine Yh ?_ Vs.out)|exact HB.out)) hb);clear Zi;clear HB;have Zi:=n0_;have HB:=n1_;clear n0_ n1_;(try clear hb);(try clear hb2);(try clear hk);(try clear hi)));go_ret;exact⟨by first|rfl|(simp[errW_none,errW_some]<;>rfl)|(simp[*,errW_none,errW_some]<;>rfl),by repeat(first|(with_reducible first|exact HB.out|apply Ye|apply Yd|apply Yg|refine Yh ?_ Vs.out)|exact HB.out)⟩
 rw[Yx c10] at H;have c10b0:(a1 == a2)=true:=beq_iff_eq.mpr c10;have c10b1:(a1 != a2)=false:=bne_eq_false_iff_eq.mpr c10;clear c10;obtain rfl:=Option.some.inj H;go_enter Try.func27,Try.ntmps27;go_wp2_with (first|((with_reducible refine gate_dst (N:=3) rfl ?_);refine Yz ?hg (N:=3) ?hd (cs:= #[.int .i64 Zb, .bool Zc, .slice Ze Za.length Zd]) (t:=24) ?hr ?_;(case hd=>rfl);(case hg=>rfl);(case hr=>first|(go_simp;done)|(go_simp;rfl));intro Zx hg w11 Zg hb;have n0_:=Ya (Yk (by repeat(first|(with_reducible first|exact HB.out|apply Ye|apply Yd|apply Yg)|exact HB.out)) hb);have n1_:=Ya (Zg);have n2_:=Ya ((by rw[hg];exact(Yi (by repeat(first|(with_reducible first|exact HB.out|apply Ye|apply Yd|apply Yg)|exact HB.out))):w.heap.size≤Zx));have n3_:=Ya ((by rw[hg];exact(Yi (by repeat(first|(with_reducible first|exact HB.out|apply Ye|apply Yd|apply Yg)|exact HB.out))):w.heap.size≤Zx));clear HB;have HB:=n0_;have Zi:=n1_;have GW191:=n2_;have Vs:=n3_;clear n0_ n1_ n2_ n3_;clear hb Zg hg;have hcz12_0:w11.cell? ⟨Zx,0,none⟩=some (.int .i64 Zb):=(Yc Zi.out 0).trans rfl;have hcz12_1:w11.cell? ⟨Zx,1,none⟩=some (.bool Zc):=(Yc Zi.out 1).trans rfl;have hcz12_2:w11.cell? ⟨Zx,2,none⟩=some (.slice Ze Za.length Zd):=(Yc Zi.out 2).trans rfl;have hfz12_0:=Yf Zi.out 0;have hfz12_1:=Yf Zi.out 1;have hfz12_2:=Yf Zi.out 2)|((with_reducible refine gate_callee (f:=30) rfl ?_);refine goesL_ (some 9) rfl rfl Try.func30 (by kernel_rfl) rfl #[.agg #[.int .i64 Zb, .bool Zc, .slice Ze Za.length Zd]] rfl (by(try simp only[List.map_toArray,List.map_cons,List.map_nil]);first|done|rfl|(simp only[List.length_drop,List.length_take];rfl)) ?_;(with_reducible refine(ebbtideref05_Check.calls k Zb Zc _ _ Za t192 _ ?side1 ?side2 A4.out).mono ?_);(case side1=>repeat(first|exact(Yt Zk.out HB.out)|(with_reducible refine Kd.C_alloc ?_ _)|(with_reducible refine Kd.C_drewN ?_ _)|(with_reducible refine Kd.C_drew ?_)));(case side2=>exact Zw.out);rintro e w13 ⟨rfl,hb⟩;refine⟨_,rfl,?_⟩;have n0_:=Ya (Yn (g:=Zx) (o:= .cells #[.int .i64 Zb, .bool Zc, .slice Ze Za.length Zd] 24 (0,0)) (by(with_reducible repeat(first|refine Yl ?_ _|refine Ym ?_|refine Yj ?_ _));exact Zi.out) hb);have n1_:=Ya (Yk (by repeat(first|(with_reducible first|exact HB.out|apply Ye|apply Yd|apply Yg|refine Yh ?_ Vs.out)|exact HB.out)) hb);clear Zi;clear HB;have Zi:=n0_;have HB:=n1_;clear n0_ n1_;(try clear hb);(try clear hb2);(try clear hk);(try clear hi);have Jc:w13.cell? ⟨Zx,0,none⟩=some (.int .i64 Zb):=(Yc Zi.out 0).trans rfl;have Jd:w13.cell? ⟨Zx,1,none⟩=some (.bool Zc):=(Yc Zi.out 1).trans rfl;have Je:w13.cell? ⟨Zx,2,none⟩=some (.slice Ze Za.length Zd):=(Yc Zi.out 2).trans rfl;have Jf:=Yf Zi.out 0;have Jg:=Yf Zi.out 1;have Jh:=Yf Zi.out 2)|((with_reducible refine gate_callee (f:=58) rfl ?_);refine goesL_ (some 15) rfl rfl Try.func58 (by kernel_rfl) rfl #[.agg #[.int .i64 Zb, .bool Zc, .slice Ze Za.length Zd], .int .i64 a1] rfl (by(try simp only[List.map_toArray,List.map_cons,List.map_nil]);first|done|rfl|(simp only[List.length_drop,List.length_take];rfl)) ?_;(with_reducible refine(ebbtideref06_Node.calls Zb Zc _ _ Za a1 true _ ?side1 ?side2 A6.out).mono ?_);(case side1=>repeat(first|exact(Yt Zk.out HB.out)|(with_reducible refine Kd.C_alloc ?_ _)|(with_reducible refine Kd.C_drewN ?_ _)|(with_reducible refine Kd.C_drew ?_)));(case side2=>exact Zw.out);rintro e w15 ⟨rfl,hb⟩;refine⟨_,rfl,?_⟩;have n0_:=Ya (Yn (g:=Zx) (o:= .cells #[.int .i64 Zb, .bool Zc, .slice Ze Za.length Zd] 24 (0,0)) (by(with_reducible repeat(first|refine Yl ?_ _|refine Ym ?_|refine Yj ?_ _));exact Zi.out) hb);have n1_:=Ya (Yk (by repeat(first|(with_reducible first|exact HB.out|apply Ye|apply Yd|apply Yg|refine Yh ?_ Vs.out)|exact HB.out)) hb);clear Zi;clear HB;have Zi:=n0_;have HB:=n1_;clear n0_ n1_;(try clear hb);(try clear hb2);(try clear hk);(try clear hi);have Jt:w15.cell? ⟨Zx,0,none⟩=some (.int .i64 Zb):=(Yc Zi.out 0).trans rfl;have Ju:w15.cell? ⟨Zx,1,none⟩=some (.bool Zc):=(Yc Zi.out 1).trans rfl;have hcz16_2:w15.cell? ⟨Zx,2,none⟩=some (.slice Ze Za.length Zd):=(Yc Zi.out 2).trans rfl;have Jv:=Yf Zi.out 0;have Jw:=Yf Zi.out 1;have hfz16_2:=Yf Zi.out 2)|(go_at_call 58;(with_reducible refine(ebbtideref06_Node.calls Zb Zc _ _ Za a2 true _ ?side1 ?side2 A8.out).mono ?_);(case side1=>repeat(first|exact(Yt Zk.out HB.out)|(with_reducible refine Kd.C_alloc ?_ _)|(with_reducible refine Kd.C_drewN ?_ _)|(with_reducible refine Kd.C_drew ?_)));(case side2=>exact Zw.out);rintro e w17 ⟨rfl,hb⟩;have n0_:=Ya (Yn (g:=Zx) (o:= .cells #[.int .i64 Zb, .bool Zc, .slice Ze Za.length Zd] 24 (0,0)) (by(with_reducible repeat(first|refine Yl ?_ _|refine Ym ?_|refine Yj ?_ _));exact Zi.out) hb);have n1_:=Ya (Yk (by repeat(first|(with_reducible first|exact HB.out|apply Ye|apply Yd|apply Yg|refine Yh ?_ Vs.out)|exact HB.out)) hb);clear Zi;clear HB;have Zi:=n0_;have HB:=n1_;clear n0_ n1_;(try clear hb);(try clear hb2);(try clear hk);(try clear hi)));go_ret;exact⟨by first|rfl|(simp[errW_none,errW_some]<;>rfl)|(simp[*,errW_none,errW_some]<;>rfl),by repeat(first|(with_reducible first|exact HB.out|apply Ye|apply Yd|apply Yg|refine Yh ?_ Vs.out)|exact HB.out)⟩
end P
namespace Q
open P
open H (endsErr)
theorem ends_ev (n:Int) (b:Bool) (l:List S50) (s t:Int):Ev (fun k=>static_Ends.f k n b l s t) (endsErr n l s t):=by
 unfold static_Ends.f endsErr;refine Ev.bind (check_ev n b l) ?_;refine Ev.ite (fun h=> ?_) (fun h=> ?_)
 ·rw[Yx h]
  refine Ev.ite (fun g=> ?_) (fun g=> ?_)
  ·exact Ev.done (by unfold mn at g;rw[Yy (by omega)])
  ·unfold mn at g
   refine Ev.ite (fun g2=> ?_) (fun g2=> ?_)
   ·exact Ev.done (by unfold mx at g2;rw[Yy (by omega)])
   ·unfold mx at g2
    refine Ev.ite (fun g3=> ?_) (fun g3=> ?_)
    ·exact Ev.done (by rw[Yy (by omega)])
    ·exact Ev.done (by rw[Yx (by omega)])
 ·rw[Yy h]
  exact Ev.now _
theorem ref_ends_ev (n:Int) (b:Bool) (l:List S50) (s t:Int):Ev (fun k=>ebbtideref07_Ends.f k n b l s t) (endsErr n l s t):=by
 unfold ebbtideref07_Ends.f endsErr;refine Ev.bind (ref_check_ev n b l) ?_;refine Ev.ite (fun h=> ?_) (fun h=> ?_)
 ·rw[Yx h]
  refine Ev.call (node_eq n b l s) ?_;refine Ev.ite (fun g=> ?_) (fun g=> ?_)
  ·have g:=Yu g
   refine Ev.call (node_eq n b l t) ?_;refine Ev.ite (fun g2=> ?_) (fun g2=> ?_)
   ·have g2:=Yu g2
    refine Ev.ite (fun g3=> ?_) (fun g3=> ?_)
    ·exact Ev.done (by rw[Yy (by omega)])
    ·exact Ev.done (by rw[Yx (by omega)])
   ·have g2:=of_decide_eq_false (Bool.eq_false_iff.2 g2)
    exact Ev.done (by rw[Yy (by omega)])
  ·have g:=of_decide_eq_false (Bool.eq_false_iff.2 g)
   exact Ev.done (by rw[Yy (by omega)])
 ·rw[Yy h]
  exact Ev.now _
end Q
namespace H
open P Q
theorem right_of {n:Int} {l:List S50} {F:List Int} (h:askErr n l F=0): ∃ n0:Nat,n=n0∧Right l F n0:=by
 obtain⟨hn,hf⟩:=askErr_ok h;have h1:=hn.lo;have h2:=hn.hi;obtain⟨n0,rfl⟩: ∃ n0:Nat,n=n0:=⟨n.toNat,by omega⟩;refine⟨n0,rfl,⟨by omega,by omega,hn.len,hf.len,fun i hi=> ?_,fun i hi=> ?_⟩⟩
 ·have ha:=hn.at_ (i:=(i:Int)) (by omega) (by omega)
  exact⟨⟨ha.f0,ha.h0⟩,⟨ha.f1,ha.h1⟩⟩
 ·have ha:=hn.at_ (i:=(i:Int)) (by omega) (by omega)
  have hb:=hf.at_ i (by rw[hf.len];exact hi);rw[rd_nat] at hb;exact⟨ha.f3,ha.h3,hb.1,hb.2,ha.h2⟩
end H
namespace Q
open P
open H (wayP Right bfP dOf nodes wayL frP toP esP bfP_upto dOf_len backL backL_spec esP_fr esP_to stFrom stTo stRoom mem_esP stL_of StepOf Leads netG fds_lt dOf_mem fnd fnd_some)
theorem leads_imp {α:Type} {to_:α→Nat} {es es':Nat→List α} (h: ∀ u e,e∈es u→e∈es' u): ∀ {L:List α} {u t:Nat},Leads to_ es u L t→Leads to_ es' u L t
 |[],u,t,hl=>hl
 |e::L,u,t,hl=>⟨h _ _ hl.1,leads_imp h hl.2⟩
theorem backL_mem {fr:S79→Nat} {st:List (H.Fd S79)} {s:Nat} (k:Nat): ∀ {v:Nat} {e:S79},e∈backL fr st s k v→ ∃ x,x∈st∧x.v≠s∧x.by_=e:=by
 induction k with
 |zero=>intro v e h;cases h
 |succ k ih=>
  intro v e h;unfold backL at h;by_cases hv:v=s
  ·rw[Yx hv] at h;cases h
  ·rw[Yy hv] at h
   cases hf:fnd st v with
   |none=>rw[hf] at h;cases h
   |some x=>
    rw[hf] at h;rcases List.mem_cons.1 h with h|h
    ·obtain⟨h1,h2⟩:=fnd_some hf
     exact⟨x,h1,by omega,h.symm⟩
    ·exact ih h
section
variable {l:List S50} {F:List Int} {n s t:Nat}
theorem wayP_fact (hr:Right l F n) (hs:s<n) (hm:t∈nodes (bfP l F n s)):Leads (toP l) (fun v=>H.stL l v l.length) s (wayP l F n s t) t∧ ∀ e,e∈wayP l F n s t→(netG l F (dOf n (bfP l F n s))).adm (frP l e) e=true:=by
 have hu:=(bfP_upto hr hs).fds;obtain⟨x,hx,hxt⟩:=List.mem_map.1 hm;have hW:wayP l F n s t=(backL (frP l) (bfP l F n s) s x.lv x.v).reverse:=by rw[← hxt];exact H.way_of hr hs hu ⟨[],by rw[List.append_nil]⟩ hx
 rw[hW];constructor
 ·have h_:=(backL_spec hu esP_fr _ hx (Nat.le_refl _)).2
  rw[hxt] at h_;exact leads_imp (fun u e he=>(mem_esP.1 he).1) (by rw[hxt];exact h_)
 ·intro e he
  rw[List.mem_reverse] at he;obtain⟨y,hy,hyne,hye⟩:=backL_mem _ he;rcases hu.mem_lv hy with ⟨h1,_⟩|⟨_,hto,z,hz,hze,hlv⟩
  ·exact absurd h1 hyne
  rw[hye] at hto hze;have hfz:=esP_fr _ _ hze;have hzd:=dOf_mem hu.nodup hz (0:Int) (fds_lt hu (esP_to hr) hs _ (List.mem_map_of_mem hz));have hyd:=dOf_mem hu.nodup hy (0:Int) (fds_lt hu (esP_to hr) hs _ (List.mem_map_of_mem hy));unfold H.Net_.adm;rw[Bool.and_eq_true,decide_eq_true_eq];refine⟨?_,?_⟩
  ·show (dOf n (bfP l F n s)).getD (toP l e) 0=(dOf n (bfP l F n s)).getD (frP l e) 0+1
   rw[hto,hfz];have h1:(dOf n (bfP l F n s)).getD y.v 0=(y.lv:Int):=hyd;have h2:(dOf n (bfP l F n s)).getD z.v 0=(z.lv:Int):=hzd;omega
  ·show decide (0<stRoom l F e)=true
   exact Yv (mem_esP.1 hze).2
end
end Q
end Go.Proofs.Ytoedkglggapggaa
